/- Instructions: flags, jumps; rows of numbers compared. -/
import Derived.Test.YtbcfbojigokplaaFnRd
namespace Go.Proofs.Ytbcfbojigokplaa
open Go.Sv
set_option linter.unusedSimpArgs false
set_option maxRecDepth 10000

def c_kit_Pick : LC :=
 (.seq (.ops [
   ⟨(some 4), none, .move (.c (.i 0))⟩])
 (.seq (.seq (.ops [
     ⟨(some 6), none, .move (.t 1)⟩,
     ⟨(some 7), none, .bin .lss true 3 (.t 6) (.c (.i 1))⟩])
   (.cond (.t 7)
    (.seq (.ops [
       ⟨(some 4), none, .move (.c (.i 0))⟩])
     .ret)
    .skip))
  (.seq (.ops [
     ⟨(some 8), none, .move (.t 0)⟩,
     ⟨(some 9), none, .move (.t 1)⟩,
     ⟨(some 10), none, .bin .rem false 3 (.t 8) (.t 9)⟩,
     ⟨(some 5), none, .move (.t 10)⟩])
   (.seq (.seq (.ops [
       ⟨(some 11), none, .move (.t 5)⟩,
       ⟨(some 12), none, .bin .lss true 3 (.t 11) (.c (.i 0))⟩])
     (.cond (.t 12)
      (.ops [
        ⟨(some 13), none, .move (.t 5)⟩,
        ⟨(some 14), none, .move (.t 1)⟩,
        ⟨(some 15), none, .bin .add false 3 (.t 13) (.t 14)⟩,
        ⟨(some 5), none, .move (.t 15)⟩])
      .skip))
    (.seq (.ops [
       ⟨(some 16), none, .move (.t 5)⟩,
       ⟨(some 4), none, .move (.t 16)⟩])
     .ret)))))
theorem r_kit_Pick : resFn Try.prog 10 = some ⟨17, c_kit_Pick.r, [.tmp 4]⟩ := by kernel_rfl
theorem k_kit_Pick : c_kit_Pick.ok = true := by kernel_rfl

def c_kit_Same_int : LC :=
 (.seq (.ops [
   ⟨(some 4), none, .move (.c (.bool false))⟩])
 (.seq (.seq (.ops [
     ⟨(some 6), none, .move (.t 0)⟩,
     ⟨(some 7), none, .lenSl (.t 6)⟩,
     ⟨(some 8), none, .move (.t 1)⟩,
     ⟨(some 9), none, .lenSl (.t 8)⟩,
     ⟨(some 10), none, .bin .neq false 3 (.t 7) (.t 9)⟩])
   (.cond (.t 10)
    (.seq (.ops [
       ⟨(some 4), none, .move (.c (.bool false))⟩])
     .ret)
    .skip))
  (.seq (.seq (.ops [
      ⟨(some 5), none, .move (.c (.i 0))⟩])
    (.block 0 (.loop (.seq (.seq (.ops [
          ⟨(some 11), none, .move (.t 5)⟩,
          ⟨(some 12), none, .move (.t 0)⟩,
          ⟨(some 13), none, .lenSl (.t 12)⟩,
          ⟨(some 14), none, .bin .lss false 3 (.t 11) (.t 13)⟩])
        (.cond (.t 14)
         .skip
         (.exit 0)))
       (.seq (.block 1 (.seq (.draw [
            (⟨(some 17), none, .move (.t 0)⟩, []),
            (⟨(some 18), none, .move (.t 5)⟩, []),
            (⟨(some 19), none, .ixAddr 1 (.t 17) (.t 18)⟩, []),
            (⟨(some 20), none, .load1 (.t 19)⟩, []),
            (⟨(some 21), none, .move (.t 1)⟩, []),
            (⟨(some 22), none, .move (.t 5)⟩, []),
            (⟨(some 23), none, .ixAddr 1 (.t 21) (.t 22)⟩, []),
            (⟨(some 24), none, .load1 (.t 23)⟩, []),
            (⟨(some 25), none, .bin .neq false 3 (.t 20) (.t 24)⟩, [])])
          (.cond (.t 25)
           (.seq (.ops [
              ⟨(some 4), none, .move (.c (.bool false))⟩])
            .ret)
           .skip)))
        (.ops [
          ⟨(some 15), none, .move (.t 5)⟩,
          ⟨(some 16), none, .bin .add true 3 (.t 15) (.c (.i 1))⟩,
          ⟨(some 5), none, .move (.t 16)⟩]))))))
   (.seq (.ops [
      ⟨(some 4), none, .move (.c (.bool true))⟩])
    .ret))))
theorem r_kit_Same_int : resFn Try.prog 11 = some ⟨26, c_kit_Same_int.r, [.tmp 4]⟩ := by kernel_rfl
theorem k_kit_Same_int : c_kit_Same_int.ok = true := by kernel_rfl



theorem kit_Pick_ok (n m : Int) (hm : 1 ≤ m ∧ m < 1000000) : ∃ k : Nat, (k : Int) < m ∧ FnS Try.prog 10 [.i n, .i m] (.i k) [] := by
  have h1 : ¬ m < 1 := by omega
  have h0 : m ≠ 0 := by omega
  have hlo : n.tmod m < m := Int.tmod_lt_of_pos n (by omega)
  have hhi : -m < n.tmod m := by
    have h := Int.tmod_lt_of_pos (-n) (show 0 < m by omega)
    rw [Int.neg_tmod] at h
    omega
  by_cases hneg : n.tmod m < 0
  · obtain ⟨k, hk⟩ := Int.eq_ofNat_of_zero_le (show 0 ≤ n.tmod m + m by omega)
    refine ⟨k, by omega, FnS.val rfl (call_body r_kit_Pick k_kit_Pick (by simp) ?_)⟩
    simp [c_kit_Pick, h1, h0, hneg]
    omega
  · obtain ⟨k, hk⟩ := Int.eq_ofNat_of_zero_le (show 0 ≤ n.tmod m by omega)
    refine ⟨k, by omega, FnS.val rfl (call_body r_kit_Pick k_kit_Pick (by simp) ?_)⟩
    simp [c_kit_Pick, h1, h0, hneg, hk]
    omega

theorem Same_ok (a b : List Int) (ha : a.length ≤ 1000000) (_ : b.length ≤ 1000000) : FnS Try.prog 11 [.lst (a.map .i) a.length 1, .lst (b.map .i) b.length 1] (.bool (decide (a = b))) [] := by
  refine FnS.val rfl (call_body r_kit_Same_int k_kit_Same_int (by simp) ?_)
  by_cases hl : (a.length : Int) = b.length
  case neg =>
    have e : decide (a = b) = false := decide_eq_false fun e => hl (by rw [e])
    simp [c_kit_Same_int, hl, e]
  simp [c_kit_Same_int, hl]
  refine loop_nx (fun ρ D G N => ∃ i : Nat, D = [] ∧ N + i = a.length ∧ lk ρ 0 = .lst (a.map .i) a.length 1 ∧ lk ρ 1 = .lst (b.map .i) b.length 1 ∧ lk ρ 5 = .i i ∧ ∀ u, u < i → gd a u = gd b u) (N := a.length) ⟨0, by simp⟩ ?_
  rintro N ρ D G ⟨i, rfl, hN, h0, h1, h5, hn⟩ Nx hNx
  by_cases hi : a.length ≤ i
  · have g : ¬ i < a.length := by omega
    have e : a = b := by
      refine List.ext_getElem (by omega) fun u q1 q2 => ?_
      have := hn u (by omega)
      simpa [gd, List.getD_eq_getElem?_getD, q1, q2] using this
    have e2 : decide (a = b) = true := decide_eq_true e
    simp [h0, h1, h5, g, e2]
  · have g : i < a.length := by omega
    have g2 : i < b.length := by omega
    have hc := map_at (f := LV.i) (at_getD (l := a) g)
    have hc1 := map_at (f := LV.i) (at_getD (l := b) g2)
    by_cases he : gd a i = gd b i
    · simp [h0, h1, h5, g, g2]
      simp [nthL_at hc, nthL_at hc1, h0, h1, h5, g, g2, he]
      refine ⟨by omega, hNx _ _ _ ⟨N - 1, by omega, i + 1, rfl, by omega, by simp [h0], by simp [h1], by simp, fun u hu => ?_⟩⟩
      by_cases e : u = i
      · rw [e]; exact he
      · exact hn u (by omega)
    · have e : decide (a = b) = false := decide_eq_false fun e => he (by rw [e])
      simp [h0, h1, h5, g, g2]
      simp [nthL_at hc, nthL_at hc1, h0, h1, h5, g, g2, he, e]
theorem Flags_ok (x : In) (h1 : inI x.imm) (h2 : inI x.disp) : FnS Try.prog 17 [.agg x.c] (.tup [.i (if checkB x = true then ((ftOf x.op).2.2.1 : Int) else 0), .i (if checkB x = true then ((ftOf x.op).2.2.2 : Int) else 0)]) [] := by
  refine FnS.val rfl (call_body r_inst_Flags k_inst_Flags (by simp) ?_)
  have hC : x.c = [.i x.op, .i x.d, .i x.s, .i x.t, .i x.base, .i x.index, .i x.scale, .i x.disp, .i x.imm] := rfl
  have f3 : ftC (ftOf x.op) = [.str (ftOf x.op).1, .i (ftOf x.op).2.1, .i (ftOf x.op).2.2.1, .i (ftOf x.op).2.2.2] := rfl
  simp [c_inst_Flags, hC]
  rw [← hC]
  refine CallL_F (Check_ok x h1 h2) (bors_self _ rfl) ?_
  cases hk : checkB x with
  | false => simp
  | true =>
    simp [hC]
    refine CallL_F (inst_of_ok x.op) (by simp) ?_
    simp [f3]
def jumpB (op : Int) : Bool := decide (op = 30) || decide (op = 31) || decide (op = 32)
theorem Jump_ok (x : In) (h1 : inI x.imm) (h2 : inI x.disp) : FnS Try.prog 18 [.agg x.c] (.bool (jumpB x.op && checkB x)) [] := by
  refine FnS.val rfl (call_body r_inst_Jump k_inst_Jump (by simp) ?_)
  have hC : x.c = [.i x.op, .i x.d, .i x.s, .i x.t, .i x.base, .i x.index, .i x.scale, .i x.disp, .i x.imm] := rfl
  have fin : ∀ b : Bool, b = true → (b && checkB x) = checkB x := fun b h => by rw [h]; rfl
  by_cases a1 : x.op = 30
  · simp [c_inst_Jump, hC, a1]
    rw [← a1, ← hC]
    refine CallL_F (Check_ok x h1 h2) (bors_self _ rfl) ?_
    cases hk : checkB x <;> simp [jumpB, a1]
  by_cases a2 : x.op = 31
  · simp [c_inst_Jump, hC, a2]
    rw [← a2, ← hC]
    refine CallL_F (Check_ok x h1 h2) (bors_self _ rfl) ?_
    cases hk : checkB x <;> simp [jumpB, a2]
  by_cases a3 : x.op = 32
  · simp [c_inst_Jump, hC, a3]
    rw [← a3, ← hC]
    refine CallL_F (Check_ok x h1 h2) (bors_self _ rfl) ?_
    cases hk : checkB x <;> simp [jumpB, a3]
  simp [c_inst_Jump, hC, a1, a2, a3, jumpB]
theorem instEq (x y : In) : ∃ b, eqA Try.prog false 25 (.agg (toAs x.c)) (.agg (toAs y.c)) = some b := by
  have h : eqA Try.prog false 25 (.agg (toAs x.c)) (.agg (toAs y.c)) = resG [some (eqI x.op y.op), some (eqI x.d y.d), some (eqI x.s y.s), some (eqI x.t y.t), resG [some (eqI x.base y.base), some (eqI x.index y.index), some (eqI x.scale y.scale), some (eqI x.disp y.disp)], some (eqI x.imm y.imm)] := by kernel_rfl
  have e1 := resG_some [eqI x.base y.base, eqI x.index y.index, eqI x.scale y.scale, eqI x.disp y.disp]
  simp only [List.map_cons, List.map_nil] at e1
  rw [e1] at h
  have e2 := resG_some [eqI x.op y.op, eqI x.d y.d, eqI x.s y.s, eqI x.t y.t, [eqI x.base y.base, eqI x.index y.index, eqI x.scale y.scale, eqI x.disp y.disp].all id, eqI x.imm y.imm]
  simp only [List.map_cons, List.map_nil] at e2
  exact ⟨_, h.trans e2⟩
end Go.Proofs.Ytbcfbojigokplaa
