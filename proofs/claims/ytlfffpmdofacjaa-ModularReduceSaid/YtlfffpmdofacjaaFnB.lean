/- Naturals: sums; what is marshalled. -/
import Derived.Test.YtlfffpmdofacjaaFnA
namespace Go.Proofs.Ytlfffpmdofacjaa
open Go.Sv
set_option linter.unusedSimpArgs false

def c_ref02_Add : LC :=
 (.seq (.ops [
   ⟨(some 4), none, .move (.c .nilSl)⟩])
 (.seq (.ops [
    ⟨(some 5), none, .move (.c .nilSl)⟩])
  (.seq (.ops [
     ⟨(some 6), none, .move (.c (.bool false))⟩])
   (.seq (.seq (.ops [
       ⟨(some 7), none, .move (.c (.i 0))⟩])
     (.block 0 (.loop (.seq (.seq (.ops [
           ⟨(some 9), none, .move (.t 7)⟩,
           ⟨(some 10), none, .move (.t 0)⟩,
           ⟨(some 11), none, .lenSl (.t 10)⟩,
           ⟨(some 12), none, .move (.t 1)⟩,
           ⟨(some 13), none, .lenSl (.t 12)⟩,
           ⟨(some 14), none, .maxi true (.t 11) (.t 13)⟩,
           ⟨(some 15), none, .bin .leq false 3 (.t 9) (.t 14)⟩])
         (.cond (.t 15)
          .skip
          (.exit 0)))
        (.seq (.block 1 (.seq (.ops [
             ⟨(some 8), none, .move (.c (.u 0))⟩])
           (.seq (.ops [
              ⟨(some 19), none, .move (.t 0)⟩,
              ⟨(some 20), none, .move (.t 7)⟩,
              ⟨(some 21), none, .callV (.c (.fn (.func 54) [] [])) [(.t 19), (.t 20)]⟩,
              ⟨(some 22), none, .move (.t 1)⟩,
              ⟨(some 23), none, .move (.t 7)⟩,
              ⟨(some 24), none, .callV (.c (.fn (.func 54) [] [])) [(.t 22), (.t 23)]⟩,
              ⟨(some 25), none, .move (.t 6)⟩,
              ⟨(some 26), none, .callV (.c (.fn (.func 53) [] [])) [(.t 21), (.t 24), (.t 25)]⟩,
              ⟨(some 18), none, .move (.t 26)⟩,
              ⟨(some 27), none, .extract 0 (.t 18)⟩,
              ⟨(some 28), none, .extract 1 (.t 18)⟩,
              ⟨(some 8), none, .move (.t 27)⟩,
              ⟨(some 6), none, .move (.t 28)⟩])
            (.ops [
              ⟨(some 29), none, .move (.t 5)⟩,
              ⟨(some 30), none, .move (.t 8)⟩,
              ⟨(some 31), none, .buildSl 1 1 [(.u 0)] [(0, 1, (.t 30))]⟩,
              ⟨(some 32), none, .appG 1 (.t 29) (.t 31)⟩,
              ⟨(some 5), none, .move (.t 32)⟩]))))
         (.ops [
           ⟨(some 16), none, .move (.t 7)⟩,
           ⟨(some 17), none, .bin .add true 3 (.t 16) (.c (.i 1))⟩,
           ⟨(some 7), none, .move (.t 17)⟩]))))))
    (.seq (.ops [
       ⟨(some 33), none, .move (.t 5)⟩,
       ⟨(some 34), none, .callV (.c (.fn (.func 18) [] [])) [(.t 33)]⟩,
       ⟨(some 4), none, .move (.t 34)⟩])
     .ret)))))
theorem r_ref02_Add : resFn Try.prog 16 = some ⟨35, c_ref02_Add.r, [.tmp 4]⟩ := by kernel_rfl
theorem k_ref02_Add : c_ref02_Add.ok = true := by kernel_rfl

def c_nat_Fit : LC :=
 (.seq (.ops [
   ⟨(some 4), none, .move (.c .nilSl)⟩,
   ⟨(some 5), none, .move (.c (.i 0))⟩])
 (.seq (.seq (.ops [
     ⟨(some 7), none, .move (.t 1)⟩,
     ⟨(some 8), none, .bin .lss true 3 (.t 7) (.c (.i 0))⟩,
     ⟨(some 9), none, .move (.t 8)⟩,
     ⟨(some 10), (some (9, false)), .move (.t 1)⟩,
     ⟨(some 11), (some (9, false)), .bin .gtr true 3 (.t 10) (.c (.i 512))⟩,
     ⟨(some 12), none, .pick (.t 9) (.c (.bool true)) (.t 11)⟩])
   (.cond (.t 12)
    (.seq (.ops [
       ⟨(some 4), none, .move (.c .nilSl)⟩,
       ⟨(some 5), none, .move (.c (.i 2))⟩])
     .ret)
    .skip))
  (.seq (.ops [
     ⟨(some 13), none, .move (.t 0)⟩,
     ⟨(some 14), none, .callV (.c (.fn (.func 52) [] [])) [(.t 13)]⟩,
     ⟨(some 6), none, .move (.t 14)⟩])
   (.seq (.seq (.ops [
       ⟨(some 15), none, .move (.t 6)⟩,
       ⟨(some 16), none, .lenSl (.t 15)⟩,
       ⟨(some 17), none, .move (.t 1)⟩,
       ⟨(some 18), none, .bin .gtr false 3 (.t 16) (.t 17)⟩])
     (.cond (.t 18)
      (.seq (.ops [
         ⟨(some 4), none, .move (.c .nilSl)⟩,
         ⟨(some 5), none, .move (.c (.i 3))⟩])
       .ret)
      .skip))
    (.seq (.ops [
       ⟨(some 19), none, .move (.t 6)⟩,
       ⟨(some 20), none, .move (.t 1)⟩,
       ⟨(some 21), none, .move (.t 6)⟩,
       ⟨(some 22), none, .lenSl (.t 21)⟩,
       ⟨(some 23), none, .bin .sub false 3 (.t 20) (.t 22)⟩,
       ⟨(some 24), none, .appZ 1 [(.u 0)] (.t 19) (.t 23)⟩,
       ⟨(some 4), none, .move (.t 24)⟩,
       ⟨(some 5), none, .move (.c (.i 0))⟩])
     .ret)))))
theorem r_nat_Fit : resFn Try.prog 48 = some ⟨25, c_nat_Fit.r, [.tmp 4, .tmp 5]⟩ := by kernel_rfl
theorem k_nat_Fit : c_nat_Fit.ok = true := by kernel_rfl

def c_marshal_put : LC :=
 (.seq (.ops [
   ⟨(some 4), none, .move (.c .nilSl)⟩])
 (.seq (.seq (.ops [
     ⟨(some 6), none, .move (.c (.i 0))⟩])
   (.block 0 (.loop (.seq (.ops [
        ⟨(some 7), none, .bin .lss true 3 (.t 6) (.c (.i 8))⟩])
      (.seq (.cond (.t 7)
        .skip
        (.exit 0))
       (.seq (.block 1 (.seq (.ops [
            ⟨(some 8), none, .move (.t 6)⟩,
            ⟨(some 5), none, .move (.t 8)⟩])
          (.ops [
            ⟨(some 9), none, .move (.t 0)⟩,
            ⟨(some 10), none, .move (.t 1)⟩,
            ⟨(some 11), none, .move (.t 5)⟩,
            ⟨(some 12), none, .bin .mul true 3 (.c (.i 8)) (.t 11)⟩,
            ⟨(some 13), none, .bin .shr false 29 (.t 10) (.t 12)⟩,
            ⟨(some 14), none, .cvInt .u8 (.t 13)⟩,
            ⟨(some 15), none, .buildSl 1 1 [(.b 0)] [(0, 1, (.t 14))]⟩,
            ⟨(some 16), none, .appG 1 (.t 9) (.t 15)⟩,
            ⟨(some 0), none, .move (.t 16)⟩])))
        (.ops [
          ⟨(some 17), none, .bin .add true 3 (.t 6) (.c (.i 1))⟩,
          ⟨(some 6), none, .move (.t 17)⟩])))))))
  (.seq (.ops [
     ⟨(some 18), none, .move (.t 0)⟩,
     ⟨(some 4), none, .move (.t 18)⟩])
   .ret)))
theorem r_marshal_put : resFn Try.prog 49 = some ⟨19, c_marshal_put.r, [.tmp 4]⟩ := by kernel_rfl
theorem k_marshal_put : c_marshal_put.ok = true := by kernel_rfl



theorem ref02_Add_ok (a b : List UInt64) (ha : a.length ≤ 1000000) (hb : b.length ≤ 1000000) : FnS Try.prog 16 [LU a, LU b] (.dy 0 0) [RU (toL (val a + val b))] := by
  refine FnS.row (call_body r_ref02_Add k_ref02_Add (by simp) ?_)
  simp [c_ref02_Add]
  refine loop_nx (fun ρ D G N => ∃ (i : Nat) (c : Bool) (out : List UInt64), D = [] ∧ N + i = max a.length b.length + 1 ∧ lk ρ 0 = LU a ∧ lk ρ 1 = LU b ∧ lk ρ 7 = .i i ∧ lk ρ 6 = .bool c ∧ RowAt G (lk ρ 5) out ∧ out.length = i ∧
    val out + 2 ^ (64 * i) * c.toNat = val (a.take i) + val (b.take i)) (N := max a.length b.length + 1) ⟨0, false, [], by simp [RowAt, val]⟩ ?_
  rintro N ρ D G ⟨i, c, out, rfl, hN, h0, h1, h7, h6, h5, hlen, hv⟩ Nx hNx
  by_cases hz : N = 0
  · subst hz
    have hlt : ¬ (i : Int) ≤ max (a.length : Int) (b.length : Int) := by omega
    simp [h0, h1, h7, hlt]
    rw [val_take_big (by omega), val_take_big (by omega)] at hv
    refine CallL_row (ref02_Trim_ok out (by omega)) (bors1 h5.bor) ?_
    rw [add_end (m := i - 1) (by omega) (by omega) (by omega) hv]
    simpa using RowAt.new
  · have hle : (i : Int) ≤ max (a.length : Int) (b.length : Int) := by omega
    simp [h0, h1, h7, hle]
    refine CallL_F (ref02_limb_ok a i) (by simp) ?_
    simp [h1, h7]
    refine CallL_F (ref02_limb_ok b i) (by simp) ?_
    simp [h6]
    refine CallL_F (ref01_Add_ok (a.getD i 0) (b.getD i 0) c) (by simp) ?_
    simp
    refine appL_row (h5.app _) (xs := [(addC (a.getD i 0) (b.getD i 0) c).1]) rfl (by simp) (by omega) (fun v' G' hr _ => ?_)
    simp [h7]
    refine ⟨by omega, hNx _ _ _ ⟨N - 1, by omega, i + 1, (addC (a.getD i 0) (b.getD i 0) c).2, _, rfl, by omega, by simp [h0], by simp [h1], by simp, by simp, by simpa using hr, by simp [hlen], add_step hlen hv⟩⟩
end Go.Proofs.Ytlfffpmdofacjaa
