/- Naturals of bytes; what is the same. -/
import Derived.Test.YtlfffpmdofacjaaFnC
namespace Go.Proofs.Ytlfffpmdofacjaa
open Go.Sv
set_option linter.unusedSimpArgs false

theorem Chunk1_ok {G : LHeap} {bs : List UInt8} {n t p q1 q2 s1 s2 st : Nat} {K : LV → LHeap → Prop} (J : Nat → LHeap → Prop) (hlen : bs.length = 8 * n) (hsm : bs.length ≤ 1000000)
    (hJ : ∀ i G, J i G → G[q1]? = some (.cells [.dy p 0] s1) ∧ G[q2]? = some (.cells [.i 8] s2) ∧ G[p]? = some (.dyn (bs.map .b) bs.length 1 0 st))
    (hstep : ∀ (i : Nat) (G : LHeap) (K : LV → LHeap → Prop), J i G → i < n → (∀ G', J (i + 1) G' → K (.bool true) G') → CallL Try.prog (.yield t) [.vw p 0 (8 * i) 8] G K)
    (h0 : J 0 G) (k : ∀ G', J n G' → K (.tup []) G') : CallL Try.prog (.fn 76) [.fn (.yield t) [] [], .ptr q1 0, .ptr q2 0] G K := by
  refine call_body r_slices_Chunk_byte_byte_1 k_slices_Chunk_byte_byte_1 (by simp) ?_
  simp [c_slices_Chunk_byte_byte_1]
  refine loop_nx (fun ρ D G N => ∃ i : Nat, D = [] ∧ N + i = n ∧ lk ρ 0 = .fn (.yield t) [] [] ∧ lk ρ 1 = .ptr q1 0 ∧ lk ρ 2 = .ptr q2 0 ∧ lk ρ 4 = .i (8 * i : Nat) ∧ J i G) (N := n) ⟨0, by simpa using h0⟩ ?_
  rintro N ρ D G ⟨i, rfl, hN, e0, e1, e2, e4, hj⟩ Nx hNx
  obtain ⟨j1, j2, j3⟩ := hJ i G hj
  by_cases hz : N = 0
  · have hi : i = n := by omega
    have ht : ¬ 8 * (i : Int) < bs.length := by omega
    subst hi
    simp [e4, e1, j1, j3, ht]
    exact k _ hj
  · have ht : 8 * (i : Int) < bs.length := by omega
    simp [e4, e1, e2, e0, j1, j2, j3, ht]
    have z1 : (8 * (i : Int)).toNat = 8 * i := by omega
    have z2 : min 8 ((bs.length - 8 * i : Nat) : Int) = 8 := by omega
    have z3 : (8 * (i : Int) + 8).toNat = 8 * i + 8 := by omega
    simp only [z1, z2, z3, Nat.add_sub_cancel_left]
    refine ⟨by omega, by omega, by omega, by omega, by omega, by omega, by omega, by omega, ?_⟩
    refine hstep i G _ hj (by omega) (fun G' hj' => ?_)
    obtain ⟨j1', j2', j3'⟩ := hJ _ G' hj'
    simp [e4, e2, j2']
    refine ⟨by omega, hNx _ _ _ ⟨N - 1, by omega, i + 1, rfl, by omega, by simp [e0], by simp [e1], by simp [e2], by simp; omega, hj'⟩⟩
theorem kit_Natural_ok (a b : List UInt64) (ha : a.length ≤ 1000000) (hb : b.length ≤ 1000000) : FnS Try.prog 15 [LU a, LU b] (.bool (decide (val a = val b))) [] := by
  refine FnS.val rfl (call_body r_kit_Natural k_kit_Natural (by simp) ?_)
  simp [c_kit_Natural]
  refine loop_nx (fun ρ D G N => ∃ i : Nat, D = [] ∧ N + i = max a.length b.length ∧ lk ρ 0 = LU a ∧ lk ρ 1 = LU b ∧ lk ρ 5 = .i i ∧ val (a.take i) = val (b.take i)) (N := max a.length b.length) ⟨0, by simp⟩ ?_
  rintro N ρ D G ⟨i, rfl, hN, h0, h1, h5, hv⟩ Nx hNx
  have next : a.getD i 0 = b.getD i 0 → val (a.take (i + 1)) = val (b.take (i + 1)) := fun e => by rw [val_take_next, val_take_next, e, hv]
  have diff : a.getD i 0 ≠ b.getD i 0 → val a ≠ val b := fun e e' => e (val_getD e' i)
  have nx : a.getD i 0 = b.getD i 0 → (i < a.length ∨ i < b.length) → ∃ N', N' < N ∧ N' + (i + 1) = max a.length b.length ∧ val (a.take (i + 1)) = val (b.take (i + 1)) := fun e h => ⟨N - 1, by omega, by omega, next e⟩
  by_cases ia : i < a.length <;> by_cases ib : i < b.length
  · simp [ia, ib] at next diff nx
    simp [h0, h1, h5, ia, ib]
    refine ⟨fun e => ⟨by omega, ?_⟩, diff⟩
    obtain ⟨N', n1, n2, n3⟩ := nx e
    exact hNx _ _ _ ⟨N', n1, i + 1, rfl, n2, by simp [h0], by simp [h1], by simp, n3⟩
  · have eb : b[i]? = none := by simp; omega
    simp [ia, eb] at next diff nx
    simp [h0, h1, h5, ia, ib]
    refine ⟨fun e => ⟨by omega, ?_⟩, diff⟩
    obtain ⟨N', n1, n2, n3⟩ := nx e
    exact hNx _ _ _ ⟨N', n1, i + 1, rfl, n2, by simp [h0], by simp [h1], by simp, n3⟩
  · have ea : a[i]? = none := by simp; omega
    simp [ib, ea] at next diff nx
    simp [h0, h1, h5, ia, ib]
    refine ⟨fun e => ⟨by omega, ?_⟩, diff⟩
    obtain ⟨N', n1, n2, n3⟩ := nx e
    exact hNx _ _ _ ⟨N', n1, i + 1, rfl, n2, by simp [h0], by simp [h1], by simp, n3⟩
  · simp [h0, h1, h5, ia, ib]
    rw [← val_take_big (a := a) (n := i) (by omega), ← val_take_big (a := b) (n := i) (by omega), hv]
theorem Chunk_ok {G : LHeap} {p k0 : Nat} {K : LV → LHeap → Prop} (k : K (.fn (.func 76) [] [.ptr G.length 0, .ptr (G.length + 1) 0]) (G ++ [.cells [.dy p k0] 0, .cells [.i 8] 0])) : CallL Try.prog (.fn 50) [.dy p k0, .i 8] G K := by
  refine call_body r_slices_Chunk_byte_byte k_slices_Chunk_byte_byte (by simp) ?_
  simp [c_slices_Chunk_byte_byte]
  simpa using k

/-- What stands, word for word. -/
noncomputable def natR (s : List UInt8) : List UInt64 := if s.length % 8 ≠ 0 ∨ 4096 < s.length then [] else toL (val (wordsN s (s.length / 8)))
def natE (s : List UInt8) : Int := if s.length % 8 ≠ 0 then 2 else if 4096 < s.length then 3 else 0
theorem marshal_Nat_ok (s : List UInt8) (hs : s.length ≤ 1000000) : FnS Try.prog 14 [.str s] (.tup [.dy 0 0, .i (natE s)]) [RU (natR s)] := by
  refine FnS.rowE (call_body r_marshal_Nat k_marshal_Nat (by simp) ?_)
  have hm : (s.length : Int).tmod 8 = (s.length : Int) % 8 := Int.tmod_eq_emod_of_nonneg (by omega)
  by_cases h0 : s.length % 8 = 0
  · have h0i : (s.length : Int) % 8 = 0 := by omega
    by_cases h1 : 4096 < s.length
    · have h1i : (4096 : Int) < s.length := by omega
      have e : natE s = 3 := by simp [natE, h0, h1]
      have e2 : natR s = [] := by simp [natR, h1]
      simp [c_marshal_Nat, hm, h0i, h1i, e, e2, RowAt]
    · have h1i : ¬ (4096 : Int) < s.length := by omega
      have e : natE s = 0 := by simp [natE, h0, h1]
      have e2 : natR s = toL (val (wordsN s (s.length / 8))) := by simp [natR, h0, h1]
      simp [c_marshal_Nat, hm, h0i, h1i, e, e2]
      refine Chunk_ok ?_
      simp
      refine W_range (fn' := 76) (first := []) (cap := [.ptr 2 0, .ptr 3 0]) (by simp) ?_
      intro ca cb aps hca hcb haps
      simp
      obtain ⟨n, hn⟩ : ∃ n, s.length = 8 * n := ⟨s.length / 8, by omega⟩
      have hd : s.length / 8 = n := by omega
      rw [hd]
      refine Chunk1_ok (n := n) (bs := s) (st := 0) (s1 := 0) (s2 := 0) (p := 1) (fun i G => ∃ ρ' v st0, G[0]? = some (.cells [v] st0) ∧ G[1]? = some (.dyn (s.map .b) s.length 1 0 0) ∧ G[2]? = some (.cells [.dy 1 0] 0) ∧ G[3]? = some (.cells [.i 8] 0) ∧ G[4]? = some (.defd true) ∧ G[5]? = some (.loop .ready none 14 26 ρ' aps ca cb 4) ∧ lk ρ' 4 = .ptr 0 0 ∧ RowAt G v (wordsN s i) ∧ ∀ q, q < 6 → ∀ k, v ≠ .dy q k) hn hs ?_ ?_ ?_ ?_
      · rintro i G ⟨ρ', v, st0, g0, g1, g2, g3, g4, g5, hρ, hv, hne⟩
        exact ⟨g2, g3, g1⟩
      · rintro i G K ⟨ρ', v, st0, g0, g1, g2, g3, g4, g5, hρ, hv, hne⟩ hi hK
        refine CallL_yield g5 hca hcb rfl rfl haps rfl (by simp) (wp_W _ ?_)
        simp [setPsL, g5]
        generalize hG1 : G.set 5 _ = G1
        have f0 : G1[0]? = some (.cells [v] st0) := by rw [← hG1, gset_ne (by decide)]; exact g0
        have f1 : G1[1]? = some (.dyn (s.map .b) s.length 1 0 0) := by rw [← hG1, gset_ne (by decide)]; exact g1
        have f5 := gset g5 (.loop .busy none 14 26 ρ' aps ca cb 4)
        rw [hG1] at f5
        refine wp_W _ ?_
        simp [hρ, f0]
        have hcl : ((s.drop (8 * i)).take 8).length = 8 := by simp; omega
        have hb : bor G1 (.vw 1 0 (8 * i) 8) (LB ((s.drop (8 * i)).take 8)) := ⟨_, _, _, _, by simp [hcl], f1, by simp; omega, by simp⟩
        have hr1 : RowAt G1 v (wordsN s i) := by
          rcases hv with hv | ⟨p, k, st, hv1, hv2⟩
          · exact .inl hv
          · refine .inr ⟨p, k, st, hv1, ?_⟩
            rw [← hG1, gset_ne (fun e => hne 5 (by decide) k (by rw [hv1, e]))]; exact hv2
        refine CallL_F (marshal_limb_ok _ (by omega)) (bors1 hb) ?_
        rw [hcl]
        have f0' : ∀ x, (G1 ++ x)[0]? = some (.cells [v] st0) := fun x => gapp f0 x
        have f0e : ∀ (x : LHeap) (h : 0 < (G1 ++ x).length), (G1 ++ x)[0]'h = .cells [v] st0 := fun x h => (List.getElem?_eq_some_iff.1 (f0' x)).2
        simp [hρ, f0, f0', f0e]
        · refine appL_row (hr1.app _) (xs := [limbN ((s.drop (8 * i)).take 8) 8]) rfl (by simp) (by rw [wordsN_length]; omega) (fun v' G' hr hfr => ?_)
          have f2 : G1[2]? = some (.cells [.dy 1 0] 0) := by rw [← hG1, gset_ne (by decide)]; exact g2
          have f3 : G1[3]? = some (.cells [.i 8] 0) := by rw [← hG1, gset_ne (by decide)]; exact g3
          have f4 : G1[4]? = some (.defd true) := by rw [← hG1, gset_ne (by decide)]; exact g4
          obtain ⟨w0, m0⟩ := hfr 0 _ (gapp f0 _) (hne 0 (by decide))
          obtain ⟨w1, m1⟩ := hfr 1 _ (gapp f1 _) (hne 1 (by decide))
          obtain ⟨w2, m2⟩ := hfr 2 _ (gapp f2 _) (hne 2 (by decide))
          obtain ⟨w3, m3⟩ := hfr 3 _ (gapp f3 _) (hne 3 (by decide))
          obtain ⟨w4, m4⟩ := hfr 4 _ (gapp f4 _) (hne 4 (by decide))
          obtain ⟨w5, m5⟩ := hfr 5 _ (gapp f5 _) (hne 5 (by decide))
          have hvc := hr.cells
          simp only [LV.cells] at hvc
          simp [hρ, w0, w5, hvc]
          refine hK _ ⟨ρ', v', st0 + 1, ?_, ?_, ?_, ?_, ?_, ?_, hρ, ?_, ?_⟩
          · rw [gset_ne (by decide), gset w0]
          · rw [gset_ne (by decide), gset_ne (by decide), w1]
          · rw [gset_ne (by decide), gset_ne (by decide), w2]
          · rw [gset_ne (by decide), gset_ne (by decide), w3]
          · rw [gset_ne (by decide), gset_ne (by decide), w4]
          · exact gset (by rw [gset_ne (by decide)]; exact w5) _
          · rcases hr with hr | ⟨p, k, st, e1, e2⟩
            · exact .inl hr
            · refine .inr ⟨p, k, st, e1, ?_⟩
              rw [gset_ne (fun e => m5 k (by rw [e1, e])), gset_ne (fun e => m0 k (by rw [e1, e]))]; exact e2
          · intro q hq k
            match q, hq with
            | 0, _ => exact m0 k
            | 1, _ => exact m1 k
            | 2, _ => exact m2 k
            | 3, _ => exact m3 k
            | 4, _ => exact m4 k
            | 5, _ => exact m5 k
      · exact ⟨_, .nilSl, 0, rfl, rfl, rfl, rfl, rfl, rfl, by simp, .inl ⟨rfl, rfl⟩, by simp⟩
      · rintro G' ⟨ρ', v, st0, g0, g1, g2, g3, g4, g5, hρ, hv, hne⟩
        have hr2 : RowAt (G'.set 5 (.loop .exhausted none 14 26 ρ' aps ca cb 4)) v (wordsN s n) := by
          rcases hv with hv | ⟨p, k, st, hv1, hv2⟩
          · exact .inl hv
          · refine .inr ⟨p, k, st, hv1, ?_⟩
            rw [gset_ne (fun e => hne 5 (by decide) k (by rw [hv1, e]))]; exact hv2
        simp [afterL, g5, g0]
        refine CallL_row (nat_Trim_ok _ (by rw [wordsN_length]; omega)) (bors1 hr2.bor) ?_
        have hlt := (List.getElem?_eq_some_iff.1 g5).1
        have g4' : ∀ x, (G'.set 5 (.loop .exhausted none 14 26 ρ' aps ca cb 4) ++ x)[4]? = some (.defd true) := fun x => gapp (by rw [gset_ne (by decide)]; exact g4) x
        simp [g4']
        refine .inr ⟨G'.length, 0, 0, rfl, ?_⟩
        rw [gset_ne (by omega)]
        simp [RU]
  · have h0n : ¬ (s.length : Int) % 8 = 0 := by omega
    have e : natE s = 2 := by simp [natE, h0]
    have e2 : natR s = [] := by simp [natR, h0]
    simp [c_marshal_Nat, hm, h0n, e, e2, RowAt]
end Go.Proofs.Ytlfffpmdofacjaa
