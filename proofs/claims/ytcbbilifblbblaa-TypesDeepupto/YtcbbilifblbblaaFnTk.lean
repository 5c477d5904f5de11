/- How deep: walked. -/
import Derived.Test.YtcbbilifblbblaaFnTj
namespace Go.Proofs.Ytcbbilifblbblaa
open Go.Sv
set_option linter.unusedSimpArgs false
set_option linter.unusedVariables false
set_option maxRecDepth 10000
def c_types_depth : LC := (.seq (.ops [.z 4 (.move (.c (.i 0)))]) (.seq (.ops [.z 5 (.move (.c (.i 0)))]) (.seq (.seq (.ops [.m 10 1,.z 11 (.lenSl (.t 10)),.z 12 (.move (.c (.i 0)))]) (.block 0 (.loop (.seq (.ops [.z 13 (.bin .lss false 3 (.t 12) (.t 11))]) (.seq (.cond (.t 13) .skip (.exit 0)) (.seq (.block 1 (.seq (.ops [.z 14 (.ixAddr 9 (.t 10) (.t 12)),.z 15 (.loadN 9 (.t 14)),.z 7 (.alloc [(.i 0),(.str []),(.i 0),.nilSl,(.str []),.nilSl,.nilSl,.nilSl,.nilSl]),⟨none,none,.store 9 (.t 7) (.t 15)⟩]) (.seq (.ops [.z 16 (.loadN 9 (.t 7)),.z 17 (.callV (.c (.fn (.func 27) [] [])) [.t 16])]) (.block 2 (.seq (.ops [.z 18 (.assert (.agg [(.i 0),(.str []),(.i 0),.nilSl,(.str []),.nilSl,.nilSl,.nilSl,.nilSl]) true 80 (.t 17)),.z 19 (.extract 1 (.t 18)),.z 20 (.extract 0 (.t 18))]) (.cond (.t 19) (.seq (.ops [.z 8 (.alloc [(.i 0),(.str []),(.i 0),.nilSl,(.str []),.nilSl,.nilSl,.nilSl,.nilSl]),⟨none,none,.store 9 (.t 8) (.t 20)⟩]) (.ops [.m 21 5,.m 22 0,.f 23 0 8,.f 24 8 23,.l 25 24,.z 26 (.callV (.c (.fn (.func 18) [] [])) [.t 22,.t 25]),.z 27 (.bin .add true 3 (.c (.i 1)) (.t 26)),.z 28 (.maxi true (.t 21) (.t 27)),.m 5 28])) (.seq (.ops [.z 29 (.assert (.agg [(.i 0),(.str []),(.i 0),.nilSl,(.str []),.nilSl,.nilSl,.nilSl,.nilSl]) true 81 (.t 17)),.z 30 (.extract 1 (.t 29)),.z 31 (.extract 0 (.t 29))]) (.cond (.t 30) (.seq (.ops [.z 9 (.alloc [(.i 0),(.str []),(.i 0),.nilSl,(.str []),.nilSl,.nilSl,.nilSl,.nilSl]),⟨none,none,.store 9 (.t 9) (.t 31)⟩]) (.ops [.m 32 5,.m 33 0,.f 34 0 9,.f 35 1 34,.l 36 35,.z 37 (.lookup .string (.i 0) false (.t 33) (.t 36)),.z 38 (.maxi true (.t 32) (.t 37)),.m 5 38])) .skip)))))))) (.ops [.z 39 (.bin .add true 3 (.t 12) (.c (.i 1))),.m 12 39]))))))) (.seq (.ops [.m 40 5,.m 4 40]) .ret))))
theorem r_types_depth : resFn Try.prog 18 = some ⟨41, c_types_depth.r, [.tmp 4]⟩ := by kernel_rfl
theorem k_types_depth : c_types_depth.ok = true := by kernel_rfl
def c_types_Depth : LC := (.seq (.ops [.z 4 (.move (.c (.i 0)))]) (.seq (.seq (.ops [.m 8 0,.m 9 1,.z 10 (.callV (.c (.fn (.func 17) [] [])) [.t 8,.t 9]),.z 11 (.un .not (.t 10))]) (.cond (.t 11) (.seq (.ops [.z 4 (.move (.c (.i 0)))]) .ret) .skip)) (.seq (.ops [.z 12 (.mkMap0),.m 5 12]) (.seq (.seq (.ops [.m 13 0,.m 14 1,.z 15 (.bin .add true 3 (.t 14) (.c (.i 1))),.z 16 (.slSl 6 (.t 13) none (some (.t 15))),.z 17 (.lenSl (.t 16)),.z 18 (.move (.c (.i 0)))]) (.block 0 (.loop (.seq (.ops [.z 19 (.bin .lss false 3 (.t 18) (.t 17))]) (.seq (.cond (.t 19) .skip (.exit 0)) (.seq (.block 1 (.seq (.ops [.z 20 (.ixAddr 6 (.t 16) (.t 18)),.z 21 (.loadN 6 (.t 20)),.z 7 (.alloc [(.str []),.nilSl,.nilSl,.nilSl,.nilSl,.nilSl]),⟨none,none,.store 6 (.t 7) (.t 21)⟩]) (.draw [(.m 22 5,[]),(.f 23 0 7,[]),(.l 24 23,[]),(.m 25 5,[]),(.f 26 5 7,[]),(.l 27 26,[]),(.z 28 (.callV (.c (.fn (.func 18) [] [])) [.t 25,.t 27]),[(.l 24 23,false)]),(⟨none,none,.mapUpd .string (.t 22) (.t 24) (.t 28)⟩,[])]))) (.ops [.z 29 (.bin .add true 3 (.t 18) (.c (.i 1))),.m 18 29]))))))) (.seq (.ops [.m 30 5,.m 31 0,.m 32 1,.z 33 (.ixAddr 6 (.t 31) (.t 32)),.f 34 0 33,.l 35 34,.z 36 (.lookup .string (.i 0) false (.t 30) (.t 35)),.m 4 36]) .ret)))))
theorem r_types_Depth : resFn Try.prog 8 = some ⟨37, c_types_Depth.r, [.tmp 4]⟩ := by kernel_rfl
theorem k_types_Depth : c_types_Depth.ok = true := by kernel_rfl
def DepOk (b : List Stt) : Prop :=
 ∀ (G : LHeap) (m ck st : Nat) (es : Des) (M : Int), G[m]? = some (.map (deM es) ck st) → 0 ≤ M → (∀ x, deF es x ≤ M) → M + cntL b ≤ 1000000000000000000 → ∀ K : LV → LHeap → Prop,
  (∀ G', Ext G G' → K (.i (depL (deF es) b)) G') → CallL Try.prog (.fn 18) [.map m, .lst (stC b) b.length 9] G K
theorem depth_any : ∀ (n : Nat) (b : List Stt), cntL b = n → okL Stt.ok b → DepOk b := by
 intro n
 induction n using Nat.strongRecOn with
 | _ n ih =>
  intro b hbn hok G m ck st es M hm hM hc hcn K k
  refine call_body r_types_depth k_types_depth (by simp) ?_
  have hrow : stC b = b.flatMap Stt.f := stC_eq b
  have hbl := hok.1
  simp [c_types_depth]
  refine loop_nx (fun ρ D G' N => ∃ (i : Nat) (mo : Int), D = [] ∧ N + i = b.length ∧ lk ρ 0 = .map m ∧ lk ρ 10 = .lst (stC b) b.length 9 ∧ lk ρ 11 = .i b.length ∧ lk ρ 12 = .i i ∧ lk ρ 5 = .i mo ∧ Ext G G' ∧ 0 ≤ mo ∧ mo ≤ M + cntL b ∧ max mo (depL (deF es) (b.drop i)) = depL (deF es) b) (N := b.length)
   ⟨0, 0, rfl, by omega, by simp, by simp, by simp, by simp, by simp, Ext.refl G, by omega, by omega, by have := depL_ge (c := deF es) b; simp; omega⟩ ?_
  rintro N ρ D G' ⟨i, mo, rfl, hN, h0, h10, h11, h12, h5, hE, hmo, hmo2, hgo⟩ Nx hNx
  by_cases gi : i < b.length
  case neg =>
   rw [List.drop_of_length_le (by omega), depL] at hgo
   have : mo = depL (deF es) b := by omega
   subst this
   simp [h11, h12, h5, gi]
   exact k G' hE
  obtain ⟨x, hxb⟩ : ∃ x, b[i]? = some x := ⟨_, List.getElem?_eq_getElem gi⟩
  have hxm : x ∈ b := List.mem_iff_getElem?.2 ⟨i, hxb⟩
  rw [depL_cut hxb] at hgo
  have hxc := cntS_le hxm
  have hxd := depS_le hM hc x
  have q9 : ((stC b).drop (i * 9)).take 9 = x.f := by rw [hrow]; exact fm_take Stt.f_len hxb
  have hq9 : i * 9 + 9 ≤ (stC b).length := by rw [hrow]; exact fm_lt Stt.f_len gi
  have hxo := hok.2 x hxm
  obtain ⟨kd, nm, len, op, xs, ns, ls, bb⟩ := x
  rw [Stt.ok] at hxo
  obtain ⟨o1, o2, o3, o4, o5, o6, o7, o8, o9⟩ := hxo
  simp [h10, h11, h12, gi, q9, hq9, Stt.f]
  refine typed_any ?_
  obtain ⟨G2, hG2⟩ : ∃ G2, G2 = G' ++ [LObj.cells [.i kd, .str nm, .i len.c, .lst (tmC len.ts) len.ts.length 2, .str op, .lst (argC xs) xs.length 2, .lst (strC ns) ns.length 1, .lst (lenC ls) ls.length 2, .lst (stC bb) bb.length 9] 1, .cells [.i kd, .str nm, .i len.c, .lst (tmC len.ts) len.ts.length 2, .str op, .lst (argC xs) xs.length 2, .lst (strC ns) ns.length 1, .lst (lenC ls) ls.length 2, .lst (stC bb) bb.length 9] 0] := ⟨_, rfl⟩
  have e2 : Ext G' G2 := by rw [hG2]; exact Ext.app _ _
  simp
  rw [← hG2]
  have nxt : ∀ (ρ' : LEnv) (H : LHeap), Ext G' H → lk ρ' 0 = .map m → lk ρ' 10 = .lst (stC b) b.length 9 → lk ρ' 11 = .i b.length → lk ρ' 12 = .i (i + 1) → lk ρ' 5 = .i (max mo (depS (deF es) (.mk kd nm len op xs ns ls bb))) → Nx ρ' [] H := fun ρ' H hH a0 a10 a11 a12 a5 =>
   hNx _ _ _ ⟨N - 1, by omega, i + 1, _, rfl, by omega, a0, a10, a11, by simpa using a12, a5, hE.trans hH, by omega, by omega, by omega⟩
  have e2G := hE.trans e2
  by_cases h3 : kd = 3
  ·subst h3
   have hds : depS (deF es) (.mk 3 nm len op xs ns ls bb) = 1 + depL (deF es) bb := by rw [depS, if_pos rfl]
   rw [hds] at nxt hxd
   simp only [cntS] at hxc hxd
   have hge := depL_ge (c := deF es) bb
   simp [tyV, h0, h5]
   refine ih (cntL bb) (by omega) bb rfl ⟨o8, (stsOk_iff bb).1 o9⟩ _ m ck st es M ((Ext.app _ _).at_ (e2G.at_ hm)) hM hc (by omega) _ fun G3 hE3 => ?_
   simp [h5, h12]
   refine ⟨by omega, by omega, nxt _ _ (e2.trans ((Ext.app _ _).trans hE3)) (by simp [h0]) (by simp [h10]) (by simp [h11]) (by simp) (by simp)⟩
  by_cases h5' : kd = 5
  ·subst h5'
   have hds : depS (deF es) (.mk 5 nm len op xs ns ls bb) = deF es nm := by rw [depS, if_neg (by decide), if_pos rfl]
   rw [hds] at nxt hxd
   have lm := (List.getElem?_eq_some_iff.1 (e2G.at_ hm)).1
   have hdf : ((es.find? fun x => decide (nm = x.1)).map (·.2.1)).getD 0 = deF es nm := rfl
   simp [tyV, h0, h5, ↓oldP lm, e2G.at_ hm, find_de]
   cases hf : es.find? fun x => decide (nm = x.1) with
   | none =>
    rw [hf] at hdf
    simp at hdf
    rw [← hdf] at nxt
    simp [h5, h12]
    exact ⟨by omega, nxt _ _ (e2.trans (Ext.app _ _)) (by simp [h0]) (by simp [h10]) (by simp [h11]) (by simp) (by simp)⟩
   | some w =>
    rw [hf] at hdf
    simp at hdf
    rw [← hdf] at nxt
    simp [h5, h12]
    exact ⟨by omega, nxt _ _ (e2.trans (Ext.app _ _)) (by simp [h0]) (by simp [h10]) (by simp [h11]) (by simp) (by simp)⟩
  have hds : depS (deF es) (.mk kd nm len op xs ns ls bb) = 0 := by rw [depS, if_neg h3, if_neg h5']
  rw [hds] at nxt
  have hmx : max mo 0 = mo := by omega
  rw [hmx] at nxt
  by_cases h1 : kd = 1
  ·subst h1
   simp [tyV, h12]
   exact ⟨by omega, nxt _ _ e2 (by simp [h0]) (by simp [h10]) (by simp [h11]) (by simp) (by simp [h5])⟩
  by_cases h2 : kd = 2
  ·subst h2
   simp [tyV, h12]
   exact ⟨by omega, nxt _ _ e2 (by simp [h0]) (by simp [h10]) (by simp [h11]) (by simp) (by simp [h5])⟩
  by_cases h4 : kd = 4
  ·subst h4
   simp [tyV, h12]
   exact ⟨by omega, nxt _ _ e2 (by simp [h0]) (by simp [h10]) (by simp [h11]) (by simp) (by simp [h5])⟩
  simp [tyV, h1, h2, h3, h4, h5', h12]
  exact ⟨by omega, nxt _ _ e2 (by simp [h0]) (by simp [h10]) (by simp [h11]) (by simp) (by simp [h5])⟩
theorem depC_cut {L : List PrcT} {j : Nat} {p : PrcT} (h : L[j]? = some p) (c : Str → Int) : depC (L.drop j) c = depC (L.drop (j + 1)) (fun n => if n = p.name then depL c p.body else c n) := by
 have hj := (List.getElem?_eq_some_iff.1 h).1
 rw [List.drop_eq_getElem_cons hj]
 have : L[j] = p := by have := List.getElem?_eq_getElem hj; rw [h] at this; exact (Option.some.inj this).symm
 rw [this, depC]
theorem Depth_ok (l : List PrcT) (hl : SrcOk l) (hn : l.length ≤ 1000000) (i : Int) : FnV Try.prog 8 [.lst (prcC l) l.length 6, .i i] (.i (depE l i)) := by
 refine FnV.mk rfl (call_body r_types_Depth k_types_Depth (by simp) ?_)
 simp [c_types_Depth]
 refine CallL_V (may_ok l hl i) (by simp [dats, LV.dat, prcC_dats]) ?_
 cases hm : mayE l i with
 | false =>
  have hv : depE l i = 0 := by rw [depE, if_neg (by rw [hm]; decide)]
  rw [hv]
  simp [borR, bor, LV.dat]
 | true =>
 have hv : depE l i = depC (l.take (i.toNat + 1)) (fun _ => 0) (gp l i.toNat).name := by rw [depE, if_pos hm]
 rw [hv]
 clear hv
 obtain ⟨j, rfl, gi⟩ : ∃ j : Nat, i = j ∧ j < l.length := by
  simp [mayE] at hm
  exact ⟨i.toNat, by omega, by omega⟩
 obtain ⟨L, hL⟩ : ∃ L, L = l.take (j + 1) := ⟨_, rfl⟩
 have hLn : L.length = j + 1 := by rw [hL, List.length_take]; omega
 have hLt : (prcC l).take ((j + 1) * 6) = prcC L := by rw [hL]; exact prcC_take l (j + 1)
 have hLo : ∀ p ∈ L, p.ok ∧ p.params.length + cntL p.body ≤ 1000000000 := fun p hp => by
  rw [hL] at hp
  have hp := List.mem_of_mem_take hp
  exact ⟨hl.1.2 p hp, hl.2 p hp⟩
 have hj1 : ((j : Int) + 1).toNat = j + 1 := by omega
 simp [hj1, ← hL, hLt]
 refine ⟨by omega, by omega, by omega, ?_⟩
 refine loop_nx (fun ρ D G' N => ∃ (k : Nat) (es : Des) (ck st : Nat), D = [] ∧ N + k = L.length ∧ lk ρ 0 = .lst (prcC l) l.length 6 ∧ lk ρ 1 = .i j ∧ lk ρ 5 = .map 0 ∧ lk ρ 16 = .lst (prcC L) (j + 1) 6 ∧ lk ρ 17 = .i (j + 1) ∧ lk ρ 18 = .i k ∧ G'[0]? = some (.map (deM es) ck st) ∧ (∀ x, deF es x ≤ k * 1000000000) ∧ depC (L.drop k) (deF es) = depC L (fun _ => 0)) (N := L.length)
  ⟨0, [], 0, 0, rfl, by omega, by simp, by simp, by simp, by simp, by simp, by simp, by simp [deM], by simp [deF], by simp; rfl⟩ ?_
 rintro N ρ D G' ⟨q, es, ck, st, rfl, hN, h0, h1, h5, h16, h17, h18, hmp, hcb, hgo⟩ Nx hNx
 by_cases gq : q < L.length
 case neg =>
  rw [List.drop_of_length_le (by omega), depC] at hgo
  have gq' : ¬ (q : Int) < j + 1 := by omega
  have q6 : ((prcC l).drop (j * 6)).take 6 = (gp l j).f := fm_take PrcT.f_len (gp_at gi)
  have q0 : (prcC l)[j * 6]? = some (.str (gp l j).name) := by
   have := fm_at PrcT.f_len (gp_at gi) (j := 0) (by decide)
   simpa [prcC, PrcT.f] using this
  have hq6 : j * 6 + 6 ≤ (prcC l).length := fm_lt PrcT.f_len gi
  have hdf : ((es.find? fun x => decide ((gp l j).name = x.1)).map (·.2.1)).getD 0 = depC L (fun _ => 0) (gp l j).name := by rw [← hgo]; rfl
  rw [← hdf]
  simp [h0, h1, h5, h17, h18, gq', gi, hmp, nthL_at q0, hq6, find_de]
  cases es.find? fun x => decide ((gp l j).name = x.1) with
  | none => simp [bor, LV.dat]
  | some w => simp [bor, LV.dat]
 have gq' : (q : Int) < j + 1 := by omega
 have q6 : ((prcC L).drop (q * 6)).take 6 = (gp L q).f := fm_take PrcT.f_len (gp_at gq)
 have hq6 : q * 6 + 6 ≤ (prcC L).length := fm_lt PrcT.f_len gq
 have hpm : gp L q ∈ L := List.mem_iff_getElem?.2 ⟨q, gp_at gq⟩
 rw [depC_cut (gp_at gq)] at hgo
 generalize gp L q = p at *
 simp [h5, h16, h17, h18, gq', q6, hq6, PrcT.f]
 obtain ⟨G1, hG1⟩ : ∃ G1, G1 = G' ++ [LObj.cells [.str p.name, .lst (strC p.lens) p.lens.length 1, .lst (parC p.params) p.params.length 4, .lst (claC p.req) p.req.length 3, .lst (claC p.ens) p.ens.length 3, .lst (stC p.body) p.body.length 9] 1] := ⟨_, rfl⟩
 have e1 : Ext G' G1 := by rw [hG1]; exact Ext.app _ _
 have b1 : G1[G'.length]? = some (.cells [.str p.name, .lst (strC p.lens) p.lens.length 1, .lst (parC p.params) p.params.length 4, .lst (claC p.req) p.req.length 3, .lst (claC p.ens) p.ens.length 3, .lst (stC p.body) p.body.length 9] 1) := by rw [hG1]; simp
 rw [← hG1]
 obtain ⟨p1, p2⟩ := hLo p hpm
 refine depth_any (cntL p.body) p.body rfl p1.2.2.2.2.2 G1 0 ck st es (q * 1000000000) (e1.at_ hmp) (by omega) hcb (by omega) _ fun G2 hE2 => ?_
 have b2 := hE2.at_ b1
 have m2 := hE2.at_ (e1.at_ hmp)
 have l2 := (List.getElem?_eq_some_iff.1 m2).1
 have hdl := depL_le (c := deF es) (M := q * 1000000000) (by omega) hcb p.body
 simp [b1, b2, m2, put_de, h18]
 refine ⟨by omega, hNx _ _ _ ⟨N - 1, by omega, q + 1, dePut p.name (depL (deF es) p.body) ck es, _, _, rfl, by omega, by simp [h0], by simp [h1], by simp [h5], by simp [h16], by simp [h17], by simp, List.getElem?_set_self l2, fun x => ?_, ?_⟩⟩
 ·rw [deF_put]
  dsimp only
  split
  ·omega
  ·have := hcb x; omega
 ·rw [deF_put]; exact hgo
end Go.Proofs.Ytcbbilifblbblaa
