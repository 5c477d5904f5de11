/- Instructions: registers that are taken, that are made. -/
import Derived.Test.YtbcfbojigokplaaSvG4
import Derived.Test.YtbcfbojigokplaaFnCo
import Derived.Test.YtbcfbojigokplaaFnCl
namespace Go.Proofs.Ytbcfbojigokplaa
open Go.Sv
set_option linter.unusedSimpArgs false
set_option maxRecDepth 10000

def c_inst_Reads : LC :=
 (.seq (.ops [
   ⟨(some 1), none, .box (.t 0)⟩,
   ⟨(some 2), none, .move (.c .nilSl)⟩])
 (.seq (.seq (.ops [
     ⟨(some 5), none, .loadN 9 (.t 1)⟩,
     ⟨(some 6), none, .callV (.c (.fn (.func 9) [] [])) [(.t 5)]⟩,
     ⟨(some 7), none, .bin .neq true 27 (.t 6) (.c (.i 0))⟩])
   (.cond (.t 7)
    (.seq (.ops [
       ⟨(some 2), none, .move (.c .nilSl)⟩])
     .ret)
    .skip))
  (.seq (.ops [
     ⟨(some 8), none, .fieldAddr 0 (.t 1)⟩,
     ⟨(some 9), none, .load1 (.t 8)⟩,
     ⟨(some 10), none, .callV (.c (.fn (.func 26) [] [])) [(.t 9)]⟩,
     ⟨(some 3), none, .alloc [(.str []), (.i 0), (.i 0), (.i 0)]⟩,
     ⟨none, none, .store 4 (.t 3) (.t 10)⟩])
   (.seq (.ops [
      ⟨(some 4), none, .move (.c .nilSl)⟩])
    (.seq (.seq (.ops [
        ⟨(some 11), none, .loadN 4 (.t 3)⟩,
        ⟨(some 12), none, .callV (.c (.fn (.func 28) [] [])) [(.t 11), (.c (.i 256))]⟩])
      (.cond (.t 12)
       (.ops [
         ⟨(some 13), none, .move (.t 4)⟩,
         ⟨(some 14), none, .fieldAddr 1 (.t 1)⟩,
         ⟨(some 15), none, .load1 (.t 14)⟩,
         ⟨(some 16), none, .buildSl 1 1 [(.i 0)] [(0, 1, (.t 15))]⟩,
         ⟨(some 17), none, .appG 1 (.t 13) (.t 16)⟩,
         ⟨(some 4), none, .move (.t 17)⟩])
       .skip))
     (.seq (.seq (.ops [
         ⟨(some 18), none, .loadN 4 (.t 3)⟩,
         ⟨(some 19), none, .callV (.c (.fn (.func 28) [] [])) [(.t 18), (.c (.i 2))]⟩,
         ⟨(some 20), none, .move (.t 19)⟩,
         ⟨(some 21), (some (20, true)), .loadN 4 (.t 3)⟩,
         ⟨(some 22), (some (20, true)), .callV (.c (.fn (.func 28) [] [])) [(.t 21), (.c (.i 4))]⟩,
         ⟨(some 23), (some (20, true)), .un .not (.t 22)⟩,
         ⟨(some 24), none, .pick (.t 20) (.t 23) (.c (.bool false))⟩])
       (.cond (.t 24)
        (.ops [
          ⟨(some 25), none, .move (.t 4)⟩,
          ⟨(some 26), none, .fieldAddr 2 (.t 1)⟩,
          ⟨(some 27), none, .load1 (.t 26)⟩,
          ⟨(some 28), none, .buildSl 1 1 [(.i 0)] [(0, 1, (.t 27))]⟩,
          ⟨(some 29), none, .appG 1 (.t 25) (.t 28)⟩,
          ⟨(some 4), none, .move (.t 29)⟩])
        .skip))
      (.seq (.seq (.ops [
          ⟨(some 30), none, .loadN 4 (.t 3)⟩,
          ⟨(some 31), none, .callV (.c (.fn (.func 28) [] [])) [(.t 30), (.c (.i 4))]⟩])
        (.cond (.t 31)
         (.ops [
           ⟨(some 32), none, .move (.t 4)⟩,
           ⟨(some 33), none, .fieldAddr 3 (.t 1)⟩,
           ⟨(some 34), none, .load1 (.t 33)⟩,
           ⟨(some 35), none, .buildSl 1 2 [(.i 0), (.i 0)] [(0, 1, (.t 34)), (1, 1, (.c (.i 2)))]⟩,
           ⟨(some 36), none, .appG 1 (.t 32) (.t 35)⟩,
           ⟨(some 4), none, .move (.t 36)⟩])
         .skip))
       (.seq (.seq (.ops [
           ⟨(some 37), none, .loadN 4 (.t 3)⟩,
           ⟨(some 38), none, .callV (.c (.fn (.func 28) [] [])) [(.t 37), (.c (.i 8))]⟩])
         (.cond (.t 38)
          (.seq (.ops [
             ⟨(some 39), none, .move (.t 4)⟩,
             ⟨(some 40), none, .fieldAddr 4 (.t 1)⟩,
             ⟨(some 41), none, .fieldAddr 0 (.t 40)⟩,
             ⟨(some 42), none, .load1 (.t 41)⟩,
             ⟨(some 43), none, .buildSl 1 1 [(.i 0)] [(0, 1, (.t 42))]⟩,
             ⟨(some 44), none, .appG 1 (.t 39) (.t 43)⟩,
             ⟨(some 4), none, .move (.t 44)⟩])
           (.seq (.ops [
              ⟨(some 45), none, .fieldAddr 4 (.t 1)⟩,
              ⟨(some 46), none, .fieldAddr 1 (.t 45)⟩,
              ⟨(some 47), none, .load1 (.t 46)⟩,
              ⟨(some 48), none, .bin .neq true 3 (.t 47) (.c (.i (-1)))⟩])
            (.cond (.t 48)
             (.ops [
               ⟨(some 49), none, .move (.t 4)⟩,
               ⟨(some 50), none, .fieldAddr 4 (.t 1)⟩,
               ⟨(some 51), none, .fieldAddr 1 (.t 50)⟩,
               ⟨(some 52), none, .load1 (.t 51)⟩,
               ⟨(some 53), none, .buildSl 1 1 [(.i 0)] [(0, 1, (.t 52))]⟩,
               ⟨(some 54), none, .appG 1 (.t 49) (.t 53)⟩,
               ⟨(some 4), none, .move (.t 54)⟩])
             .skip)))
          .skip))
        (.seq (.seq (.ops [
            ⟨(some 55), none, .loadN 4 (.t 3)⟩,
            ⟨(some 56), none, .callV (.c (.fn (.func 28) [] [])) [(.t 55), (.c (.i 512))]⟩])
          (.cond (.t 56)
           (.ops [
             ⟨(some 57), none, .move (.t 4)⟩,
             ⟨(some 58), none, .buildSl 1 1 [(.i 0)] [(0, 1, (.c (.i 4)))]⟩,
             ⟨(some 59), none, .appG 1 (.t 57) (.t 58)⟩,
             ⟨(some 4), none, .move (.t 59)⟩])
           .skip))
         (.seq (.ops [
            ⟨(some 60), none, .move (.t 4)⟩,
            ⟨(some 61), none, .callV (.c (.fn (.func 31) [] [])) [(.t 60)]⟩,
            ⟨(some 2), none, .move (.t 61)⟩])
          .ret))))))))))
theorem r_inst_Reads : resFn Try.prog 12 = some ⟨62, c_inst_Reads.r, [.tmp 2]⟩ := by kernel_rfl
theorem k_inst_Reads : c_inst_Reads.ok = true := by kernel_rfl

def c_inst_Writes : LC :=
 (.seq (.ops [
   ⟨(some 1), none, .box (.t 0)⟩,
   ⟨(some 2), none, .move (.c .nilSl)⟩])
 (.seq (.seq (.ops [
     ⟨(some 5), none, .loadN 9 (.t 1)⟩,
     ⟨(some 6), none, .callV (.c (.fn (.func 9) [] [])) [(.t 5)]⟩,
     ⟨(some 7), none, .bin .neq true 27 (.t 6) (.c (.i 0))⟩])
   (.cond (.t 7)
    (.seq (.ops [
       ⟨(some 2), none, .move (.c .nilSl)⟩])
     .ret)
    .skip))
  (.seq (.ops [
     ⟨(some 8), none, .fieldAddr 0 (.t 1)⟩,
     ⟨(some 9), none, .load1 (.t 8)⟩,
     ⟨(some 10), none, .callV (.c (.fn (.func 26) [] [])) [(.t 9)]⟩,
     ⟨(some 3), none, .alloc [(.str []), (.i 0), (.i 0), (.i 0)]⟩,
     ⟨none, none, .store 4 (.t 3) (.t 10)⟩])
   (.seq (.ops [
      ⟨(some 4), none, .move (.c .nilSl)⟩])
    (.seq (.seq (.ops [
        ⟨(some 11), none, .loadN 4 (.t 3)⟩,
        ⟨(some 12), none, .callV (.c (.fn (.func 28) [] [])) [(.t 11), (.c (.i 128))]⟩])
      (.cond (.t 12)
       (.ops [
         ⟨(some 13), none, .move (.t 4)⟩,
         ⟨(some 14), none, .fieldAddr 1 (.t 1)⟩,
         ⟨(some 15), none, .load1 (.t 14)⟩,
         ⟨(some 16), none, .buildSl 1 1 [(.i 0)] [(0, 1, (.t 15))]⟩,
         ⟨(some 17), none, .appG 1 (.t 13) (.t 16)⟩,
         ⟨(some 4), none, .move (.t 17)⟩])
       .skip))
     (.seq (.seq (.ops [
         ⟨(some 18), none, .loadN 4 (.t 3)⟩,
         ⟨(some 19), none, .callV (.c (.fn (.func 28) [] [])) [(.t 18), (.c (.i 4))]⟩])
       (.cond (.t 19)
        (.ops [
          ⟨(some 20), none, .move (.t 4)⟩,
          ⟨(some 21), none, .fieldAddr 2 (.t 1)⟩,
          ⟨(some 22), none, .load1 (.t 21)⟩,
          ⟨(some 23), none, .buildSl 1 1 [(.i 0)] [(0, 1, (.t 22))]⟩,
          ⟨(some 24), none, .appG 1 (.t 20) (.t 23)⟩,
          ⟨(some 4), none, .move (.t 24)⟩])
        .skip))
      (.seq (.seq (.ops [
          ⟨(some 25), none, .loadN 4 (.t 3)⟩,
          ⟨(some 26), none, .callV (.c (.fn (.func 28) [] [])) [(.t 25), (.c (.i 512))]⟩])
        (.cond (.t 26)
         (.ops [
           ⟨(some 27), none, .move (.t 4)⟩,
           ⟨(some 28), none, .buildSl 1 1 [(.i 0)] [(0, 1, (.c (.i 4)))]⟩,
           ⟨(some 29), none, .appG 1 (.t 27) (.t 28)⟩,
           ⟨(some 4), none, .move (.t 29)⟩])
         .skip))
       (.seq (.ops [
          ⟨(some 30), none, .move (.t 4)⟩,
          ⟨(some 31), none, .callV (.c (.fn (.func 31) [] [])) [(.t 30)]⟩,
          ⟨(some 2), none, .move (.t 31)⟩])
        .ret))))))))
theorem r_inst_Writes : resFn Try.prog 13 = some ⟨32, c_inst_Writes.r, [.tmp 2]⟩ := by kernel_rfl
theorem k_inst_Writes : c_inst_Writes.ok = true := by kernel_rfl

def c_inst_Flags : LC :=
 (.seq (.ops [
   ⟨(some 1), none, .box (.t 0)⟩,
   ⟨(some 2), none, .move (.c (.i 0))⟩,
   ⟨(some 3), none, .move (.c (.i 0))⟩])
 (.seq (.seq (.ops [
     ⟨(some 5), none, .loadN 9 (.t 1)⟩,
     ⟨(some 6), none, .callV (.c (.fn (.func 9) [] [])) [(.t 5)]⟩,
     ⟨(some 7), none, .bin .neq true 27 (.t 6) (.c (.i 0))⟩])
   (.cond (.t 7)
    (.seq (.ops [
       ⟨(some 2), none, .move (.c (.i 0))⟩,
       ⟨(some 3), none, .move (.c (.i 0))⟩])
     .ret)
    .skip))
  (.seq (.ops [
     ⟨(some 8), none, .fieldAddr 0 (.t 1)⟩,
     ⟨(some 9), none, .load1 (.t 8)⟩,
     ⟨(some 10), none, .callV (.c (.fn (.func 26) [] [])) [(.t 9)]⟩,
     ⟨(some 4), none, .alloc [(.str []), (.i 0), (.i 0), (.i 0)]⟩,
     ⟨none, none, .store 4 (.t 4) (.t 10)⟩])
   (.seq (.draw [
      (⟨(some 11), none, .fieldAddr 2 (.t 4)⟩, []),
      (⟨(some 12), none, .load1 (.t 11)⟩, []),
      (⟨(some 13), none, .fieldAddr 3 (.t 4)⟩, []),
      (⟨(some 14), none, .load1 (.t 13)⟩, []),
      (⟨(some 2), none, .move (.t 12)⟩, []),
      (⟨(some 3), none, .move (.t 14)⟩, [])])
    .ret))))
theorem r_inst_Flags : resFn Try.prog 17 = some ⟨15, c_inst_Flags.r, [.tmp 2, .tmp 3]⟩ := by kernel_rfl
theorem k_inst_Flags : c_inst_Flags.ok = true := by kernel_rfl

def c_inst_Jump : LC :=
 (.seq (.ops [
   ⟨(some 1), none, .box (.t 0)⟩,
   ⟨(some 2), none, .move (.c (.bool false))⟩])
 (.seq (.seq (.ops [
     ⟨(some 3), none, .fieldAddr 0 (.t 1)⟩,
     ⟨(some 4), none, .load1 (.t 3)⟩])
   (.block 0 (.seq (.seq (.ops [
        ⟨(some 6), none, .bin .eql true 3 (.t 4) (.c (.i 30))⟩,
        ⟨(some 5), none, .move (.t 6)⟩])
      (.cond (.t 5)
       .skip
       (.seq (.ops [
          ⟨(some 7), none, .bin .eql true 3 (.t 4) (.c (.i 31))⟩,
          ⟨(some 5), none, .move (.t 7)⟩])
        (.cond (.t 5)
         .skip
         (.ops [
           ⟨(some 8), none, .bin .eql true 3 (.t 4) (.c (.i 32))⟩,
           ⟨(some 5), none, .move (.t 8)⟩])))))
     (.cond (.t 5)
      (.seq (.ops [
         ⟨(some 9), none, .loadN 9 (.t 1)⟩,
         ⟨(some 10), none, .callV (.c (.fn (.func 9) [] [])) [(.t 9)]⟩,
         ⟨(some 11), none, .bin .eql true 27 (.t 10) (.c (.i 0))⟩,
         ⟨(some 2), none, .move (.t 11)⟩])
       .ret)
      .skip))))
  (.seq (.ops [
     ⟨(some 2), none, .move (.c (.bool false))⟩])
   .ret)))
theorem r_inst_Jump : resFn Try.prog 18 = some ⟨12, c_inst_Jump.r, [.tmp 2]⟩ := by kernel_rfl
theorem k_inst_Jump : c_inst_Jump.ok = true := by kernel_rfl



theorem Compact_nil : FnS Try.prog 41 [.nilSl] .nilSl [] := by
  refine FnS.val rfl (call_body r_slices_Compact_int_int k_slices_Compact_int_int (by simp) ?_)
  simp [c_slices_Compact_int_int]
theorem set_nil : FnS Try.prog 31 [.nilSl] .nilSl [] := by
  refine FnS.val rfl (call_body r_inst_set k_inst_set (by simp) ?_)
  simp [c_inst_set]
  refine CallL_F Sort_nil (bors_self _ rfl) ?_
  simp
  refine CallL_F Compact_nil (bors_self _ rfl) ?_
  simp
/-- What is known while the registers are gathered. -/
def PhiR (x : In) (L : List Int) (ρ : LEnv) (D : List Nat) (G : LHeap) : Prop :=
  D = [] ∧ lk ρ 1 = .ptr 0 0 ∧ lk ρ 3 = .ptr 1 0 ∧ G[0]? = some (.cells x.c 0) ∧ G[1]? = some (.cells (ftC (ftOf x.op)) 1) ∧ RowG G (lk ρ 4) (L.map .i) ∧ (∀ k, lk ρ 4 ≠ .dy 0 k) ∧ (∀ k, lk ρ 4 ≠ .dy 1 k)
theorem PhiR.next {x : In} {L L' : List Int} {ρ ρ' : LEnv} {G : LHeap} (h : PhiR x L ρ [] G) (e : L' = L) (h1 : lk ρ' 1 = lk ρ 1) (h3 : lk ρ' 3 = lk ρ 3) (h4 : lk ρ' 4 = lk ρ 4) : PhiR x L' ρ' [] G := by
  obtain ⟨_, k1, k3, g0, g1, r, n0, n1⟩ := h
  subst e
  exact ⟨rfl, by rw [h1, k1], by rw [h3, k3], g0, g1, by rw [h4]; exact r, by rw [h4]; exact n0, by rw [h4]; exact n1⟩
theorem PhiR.app {x : In} {L L' new : List Int} {ρ : LEnv} {G X : LHeap} {n : Nat} {cs : List LV} {K : LV → LHeap → Prop} (h : PhiR x L ρ [] G) (hc : cs = new.map .i) (hn : n = new.length) (e : L' = L ++ new) (hl : L.length ≤ 1000000000)
    (k : ∀ v' G', (∀ ρ', lk ρ' 1 = .ptr 0 0 → lk ρ' 3 = .ptr 1 0 → lk ρ' 4 = v' → PhiR x L' ρ' [] G') → K v' G') : appL (G ++ X) 1 (lk ρ 4) n cs K := by
  obtain ⟨_, k1, k3, g0, g1, r, n0, n1⟩ := h
  subst e hc hn
  refine appL_rowG (r.app X) (by simp) (by simpa using hl) fun v' G' hr hfr => k v' G' fun ρ' h1 h3 h4 => ?_
  obtain ⟨a0, b0⟩ := hfr 0 _ (gapp g0 X) n0
  obtain ⟨a1, b1⟩ := hfr 1 _ (gapp g1 X) n1
  exact ⟨rfl, h1, h3, a0, a1, by rw [h4]; simpa using hr, by rw [h4]; exact b0, by rw [h4]; exact b1⟩
theorem flag_at (x : In) (w : Nat) (hw : w < 1000000) : FnS Try.prog 28 [.agg (ftC (ftOf x.op)), .i w] (.bool (hasB (ftOf x.op) w)) [] := hasB_ok _ w (ft_small x.op) hw
theorem rl_len (x : In) : (rl1 x).length ≤ 1 ∧ (rl2 x).length ≤ 2 ∧ (rl3 x).length ≤ 4 ∧ (rl4 x).length ≤ 6 := by
  unfold rl4 rl3 rl2 rl1
  simp only [List.length_append]
  refine ⟨?_, ?_, ?_, ?_⟩ <;> repeat' split
  all_goals simp
theorem Writes_ok (x : In) (h1 : inI x.imm) (h2 : inI x.disp) : FnV Try.prog 13 [.agg x.c] (.lst ((regsOf (if checkB x = true then wl3 x else [])).map .i) (regsOf (if checkB x = true then wl3 x else [])).length 1) := by
  refine FnV.mk (by simp only [LV.dat]; exact dats_map (fun _ => rfl) _) (call_body r_inst_Writes k_inst_Writes (by simp) ?_)
  rw [c_inst_Writes, wp_assoc, wp_assoc, wp_assoc]
  have hC : x.c = [.i x.op, .i x.d, .i x.s, .i x.t, .i x.base, .i x.index, .i x.scale, .i x.disp, .i x.imm] := rfl
  have f1 : (ftC (ftOf x.op)).length = 4 := rfl
  have f2 : (ftC (ftOf x.op)).take 4 = ftC (ftOf x.op) := rfl
  have f3 : ftC (ftOf x.op) = [.str (ftOf x.op).1, .i (ftOf x.op).2.1, .i (ftOf x.op).2.2.1, .i (ftOf x.op).2.2.2] := rfl
  have f4 : frVs [] (ftC (ftOf x.op)) = ftC (ftOf x.op) := rfl
  cases hk : checkB x with
  | false =>
    simp [hC]
    rw [← hC]
    refine CallL_F (Check_ok x h1 h2) (bors_self _ rfl) ?_
    simp [hk, regsOf_nil]
  | true =>
  rw [if_pos rfl]
  refine wp_cut (fun ρ D G => PhiR x [] ρ D G) (fun Nx hNx => ?_) (fun ρ D G hΦ => ?_)
  · simp [hC]
    rw [← hC]
    refine CallL_F (Check_ok x h1 h2) (bors_self _ rfl) ?_
    simp [hk, hC]
    refine CallL_F (inst_of_ok x.op) (by simp) ?_
    simp [f4, f3]
    rw [← hC, ← f3]
    exact hNx _ _ _ ⟨rfl, by simp, by simp, rfl, rfl, .inl ⟨by simp, rfl⟩, by simp, by simp⟩
  obtain ⟨rfl, k1, k3, g0, g1, _⟩ := id hΦ
  refine wp_cut (fun ρ D G => PhiR x (wl1 x) ρ D G) (fun Nx hNx => ?_) (fun ρ D G hΦ => ?_)
  · simp [k3, g1, f1, f2]
    refine CallL_F (flag_at x 128 (by omega)) (bors_self _ rfl) ?_
    cases hb : hasB (ftOf x.op) 128 with
    | false =>
      simp
      exact hNx _ _ _ (hΦ.next (by simp [wl1, hb]) (by simp) (by simp) (by simp))
    | true =>
      simp [k1, g0, hC]
      exact hΦ.app (L' := wl1 x) (new := [x.d]) rfl rfl (by simp [wl1, hb]) (by simp) fun v' G' hP => by
        simp
        exact hNx _ _ _ (hP _ (by simp [k1]) (by simp [k3]) (by simp))
  obtain ⟨rfl, k1, k3, g0, g1, _⟩ := id hΦ
  refine wp_cut (fun ρ D G => PhiR x (wl2 x) ρ D G) (fun Nx hNx => ?_) (fun ρ D G hΦ => ?_)
  · simp [k3, g1, f1, f2]
    refine CallL_F (flag_at x 4 (by omega)) (bors_self _ rfl) ?_
    cases hb : hasB (ftOf x.op) 4 with
    | false =>
      simp
      exact hNx _ _ _ (hΦ.next (by simp [wl2, hb]) (by simp) (by simp) (by simp))
    | true =>
      simp [k1, g0, hC]
      exact hΦ.app (L' := wl2 x) (new := [x.s]) rfl rfl (by simp [wl2, hb]) (by unfold wl1; split <;> simp) fun v' G' hP => by
        simp
        exact hNx _ _ _ (hP _ (by simp [k1]) (by simp [k3]) (by simp))
  obtain ⟨rfl, k1, k3, g0, g1, _⟩ := id hΦ
  refine wp_cut (fun ρ D G => PhiR x (wl3 x) ρ D G) (fun Nx hNx => ?_) (fun ρ D G hΦ => ?_)
  · simp [k3, g1, f1, f2]
    refine CallL_F (flag_at x 512 (by omega)) (bors_self _ rfl) ?_
    cases hb : hasB (ftOf x.op) 512 with
    | false =>
      simp
      exact hNx _ _ _ (hΦ.next (by simp [wl3, hb]) (by simp) (by simp) (by simp))
    | true =>
      simp [k1, g0, hC]
      exact hΦ.app (L' := wl3 x) (new := [4]) rfl rfl (by simp [wl3, hb]) (by unfold wl2 wl1; rw [List.length_append]; split <;> split <;> simp) fun v' G' hP => by
        simp
        exact hNx _ _ _ (hP _ (by simp [k1]) (by simp [k3]) (by simp))
  obtain ⟨rfl, k1, k3, g0, g1, hr, _⟩ := id hΦ
  obtain ⟨q1, q2⟩ := writes_in hk
  simp
  rcases hr with ⟨e1, e2⟩ | ⟨p, k, st, e1, e2⟩
  · rw [e1]
    refine CallL_F set_nil (bors_self _ rfl) ?_
    have e3 : wl3 x = [] := by simpa using e2
    simp [e3, regsOf_nil]
  · rw [e1]
    rw [List.length_map] at e2
    refine set_ok (wl3 x) (by omega) q2 G p k st e2 _ fun v G' hb => ?_
    simp [-borR]
    cases v with
    | tup l => obtain ⟨r, e, _⟩ := hb; cases e
    | _ => exact hb
end Go.Proofs.Ytbcfbojigokplaa
