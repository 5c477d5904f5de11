/- Bytes: what the functions come to. -/
import Derived.Test.YtlfffpmdofacjaaFnB
import Derived.Test.YtlfffpmdofacjaaSvG3
namespace Go.Proofs.Ytlfffpmdofacjaa
open Go.Sv
set_option linter.unusedSimpArgs false

def c_marshal_Bytes : LC :=
 (.seq (.ops [
   ⟨(some 4), none, .move (.c (.str []))⟩,
   ⟨(some 5), none, .move (.c (.i 0))⟩])
 (.seq (.ops [
    ⟨(some 12), none, .move (.t 0)⟩,
    ⟨(some 13), none, .move (.t 1)⟩,
    ⟨(some 14), none, .callV (.c (.fn (.func 48) [] [])) [(.t 12), (.t 13)]⟩,
    ⟨(some 11), none, .move (.t 14)⟩,
    ⟨(some 15), none, .extract 0 (.t 11)⟩,
    ⟨(some 16), none, .extract 1 (.t 11)⟩,
    ⟨(some 6), none, .move (.t 15)⟩,
    ⟨(some 7), none, .move (.t 16)⟩])
  (.seq (.seq (.ops [
      ⟨(some 17), none, .move (.t 7)⟩,
      ⟨(some 18), none, .bin .neq true 25 (.t 17) (.c (.i 0))⟩])
    (.cond (.t 18)
     (.seq (.ops [
        ⟨(some 19), none, .move (.t 7)⟩,
        ⟨(some 4), none, .move (.c (.str []))⟩,
        ⟨(some 5), none, .move (.t 19)⟩])
      .ret)
     .skip))
   (.seq (.ops [
      ⟨(some 8), none, .move (.c .nilSl)⟩])
    (.seq (.seq (.ops [
        ⟨(some 20), none, .move (.t 6)⟩,
        ⟨(some 21), none, .lenSl (.t 20)⟩,
        ⟨(some 22), none, .move (.c (.i 0))⟩])
      (.block 0 (.loop (.seq (.ops [
           ⟨(some 23), none, .bin .lss false 3 (.t 22) (.t 21)⟩])
         (.seq (.cond (.t 23)
           .skip
           (.exit 0))
          (.seq (.block 1 (.seq (.ops [
               ⟨(some 24), none, .ixAddr 1 (.t 20) (.t 22)⟩,
               ⟨(some 25), none, .load1 (.t 24)⟩,
               ⟨(some 10), none, .move (.t 25)⟩])
             (.ops [
               ⟨(some 26), none, .move (.t 8)⟩,
               ⟨(some 27), none, .move (.t 10)⟩,
               ⟨(some 28), none, .callV (.c (.fn (.func 49) [] [])) [(.t 26), (.t 27)]⟩,
               ⟨(some 8), none, .move (.t 28)⟩])))
           (.ops [
             ⟨(some 29), none, .bin .add true 3 (.t 22) (.c (.i 1))⟩,
             ⟨(some 22), none, .move (.t 29)⟩])))))))
     (.seq (.ops [
        ⟨(some 30), none, .move (.t 8)⟩,
        ⟨(some 31), none, .cvStr (.t 30)⟩,
        ⟨(some 4), none, .move (.t 31)⟩,
        ⟨(some 5), none, .move (.c (.i 0))⟩])
      .ret))))))
theorem r_marshal_Bytes : resFn Try.prog 12 = some ⟨32, c_marshal_Bytes.r, [.tmp 4, .tmp 5]⟩ := by kernel_rfl
theorem k_marshal_Bytes : c_marshal_Bytes.ok = true := by kernel_rfl

def c_marshal_Nat : LC :=
 (.seq (.ops [
   ⟨(some 2), none, .move (.c .nilSl)⟩,
   ⟨(some 3), none, .move (.c (.i 0))⟩])
 (.seq (.block 0 (.seq (.ops [
      ⟨(some 7), none, .move (.t 0)⟩,
      ⟨(some 8), none, .lenStr (.t 7)⟩,
      ⟨(some 9), none, .bin .rem true 3 (.t 8) (.c (.i 8))⟩,
      ⟨(some 10), none, .bin .neq true 3 (.t 9) (.c (.i 0))⟩,
      ⟨(some 6), none, .move (.t 10)⟩])
    (.cond (.t 6)
     (.seq (.ops [
        ⟨(some 2), none, .move (.c .nilSl)⟩,
        ⟨(some 3), none, .move (.c (.i 2))⟩])
      .ret)
     (.seq (.ops [
        ⟨(some 12), none, .move (.t 0)⟩,
        ⟨(some 13), none, .lenStr (.t 12)⟩,
        ⟨(some 14), none, .bin .gtr true 3 (.t 13) (.c (.i 4096))⟩,
        ⟨(some 11), none, .move (.t 14)⟩])
      (.cond (.t 11)
       (.seq (.ops [
          ⟨(some 2), none, .move (.c .nilSl)⟩,
          ⟨(some 3), none, .move (.c (.i 3))⟩])
        .ret)
       .skip)))))
  (.seq (.ops [
     ⟨(some 4), none, .alloc [.nilSl]⟩])
   (.seq (.seq (.ops [
       ⟨(some 15), none, .move (.t 0)⟩,
       ⟨(some 16), none, .cvBytes (.t 15)⟩,
       ⟨(some 17), none, .callV (.c (.fn (.func 50) [] [])) [(.t 16), (.c (.i 8))]⟩])
     (.block 1 (.rangeF (.t 17) [18]
       (.ops [
         ⟨(some 5), none, .move (.t 18)⟩])
       (.block 2 (.draw [
          (⟨(some 19), none, .load1 (.t 4)⟩, []),
          (⟨(some 20), none, .move (.t 5)⟩, []),
          (⟨(some 21), none, .callV (.c (.fn (.func 51) [] [])) [(.t 20)]⟩, [(⟨(some 19), none, .load1 (.t 4)⟩, false)]),
          (⟨(some 22), none, .buildSl 1 1 [(.u 0)] [(0, 1, (.t 21))]⟩, [(⟨(some 19), none, .load1 (.t 4)⟩, false)]),
          (⟨(some 23), none, .appG 1 (.t 19) (.t 22)⟩, []),
          (⟨none, none, .store 1 (.t 4) (.t 23)⟩, [])])))))
    (.seq (.ops [
       ⟨(some 24), none, .load1 (.t 4)⟩,
       ⟨(some 25), none, .callV (.c (.fn (.func 52) [] [])) [(.t 24)]⟩,
       ⟨(some 2), none, .move (.t 25)⟩,
       ⟨(some 3), none, .move (.c (.i 0))⟩])
     .ret)))))
theorem r_marshal_Nat : resFn Try.prog 14 = some ⟨26, c_marshal_Nat.r, [.tmp 2, .tmp 3]⟩ := by kernel_rfl
theorem k_marshal_Nat : c_marshal_Nat.ok = true := by kernel_rfl

def c_marshal_limb : LC :=
 (.seq (.ops [
   ⟨(some 2), none, .move (.c (.u 0))⟩])
 (.seq (.seq (.ops [
     ⟨(some 5), none, .move (.t 0)⟩,
     ⟨(some 6), none, .lenSl (.t 5)⟩,
     ⟨(some 7), none, .move (.c (.i 0))⟩])
   (.block 0 (.loop (.seq (.ops [
        ⟨(some 8), none, .bin .lss false 3 (.t 7) (.t 6)⟩])
      (.seq (.cond (.t 8)
        .skip
        (.exit 0))
       (.seq (.block 1 (.seq (.ops [
            ⟨(some 9), none, .move (.t 7)⟩,
            ⟨(some 10), none, .ixAddr 1 (.t 5) (.t 7)⟩,
            ⟨(some 11), none, .load1 (.t 10)⟩,
            ⟨(some 3), none, .move (.t 9)⟩,
            ⟨(some 4), none, .move (.t 11)⟩])
          (.ops [
            ⟨(some 12), none, .move (.t 2)⟩,
            ⟨(some 13), none, .move (.t 4)⟩,
            ⟨(some 14), none, .cvInt .u64 (.t 13)⟩,
            ⟨(some 15), none, .move (.t 3)⟩,
            ⟨(some 16), none, .bin .mul true 3 (.c (.i 8)) (.t 15)⟩,
            ⟨(some 17), none, .bin .shl false 29 (.t 14) (.t 16)⟩,
            ⟨(some 18), none, .bin .or false 29 (.t 12) (.t 17)⟩,
            ⟨(some 2), none, .move (.t 18)⟩])))
        (.ops [
          ⟨(some 19), none, .bin .add true 3 (.t 7) (.c (.i 1))⟩,
          ⟨(some 7), none, .move (.t 19)⟩])))))))
  (.seq (.ops [
     ⟨(some 20), none, .move (.t 2)⟩,
     ⟨(some 2), none, .move (.t 20)⟩])
   .ret)))
theorem r_marshal_limb : resFn Try.prog 51 = some ⟨21, c_marshal_limb.r, [.tmp 2]⟩ := by kernel_rfl
theorem k_marshal_limb : c_marshal_limb.ok = true := by kernel_rfl

def c_slices_Chunk_byte_byte : LC :=
 (.seq (.ops [
   ⟨(some 2), none, .box (.t 0)⟩,
   ⟨(some 3), none, .box (.t 1)⟩,
   ⟨(some 4), none, .move (.c .nilFn)⟩])
 (.seq (.seq (.ops [
     ⟨(some 5), none, .load1 (.t 3)⟩,
     ⟨(some 6), none, .bin .lss true 3 (.t 5) (.c (.i 1))⟩])
   (.cond (.t 6)
    .stuck
    .skip))
  (.seq (.ops [
     ⟨(some 8), none, .mkFunc 76 [] [(.t 2), (.t 3)]⟩,
     ⟨(some 4), none, .move (.t 8)⟩])
   .ret)))
theorem r_slices_Chunk_byte_byte : resFn Try.prog 50 = some ⟨9, c_slices_Chunk_byte_byte.r, [.tmp 4]⟩ := by kernel_rfl
theorem k_slices_Chunk_byte_byte : c_slices_Chunk_byte_byte.ok = true := by kernel_rfl

def c_slices_Chunk_byte_byte_1 : LC :=
 (.seq (.ops [
   ⟨(some 4), none, .move (.c (.i 0))⟩])
 (.block 0 (.loop (.seq (.seq (.ops [
       ⟨(some 6), none, .move (.t 4)⟩,
       ⟨(some 7), none, .load1 (.t 1)⟩,
       ⟨(some 8), none, .lenSl (.t 7)⟩,
       ⟨(some 9), none, .bin .lss false 3 (.t 6) (.t 8)⟩])
     (.cond (.t 9)
      .skip
      (.exit 0)))
    (.seq (.block 1 (.seq (.draw [
         (⟨(some 13), none, .load1 (.t 2)⟩, []),
         (⟨(some 14), none, .load1 (.t 1)⟩, []),
         (⟨(some 15), none, .move (.t 4)⟩, []),
         (⟨(some 16), none, .slSl 1 (.t 14) (some (.t 15)) none⟩, []),
         (⟨(some 17), none, .lenSl (.t 16)⟩, []),
         (⟨(some 18), none, .maxi false (.t 13) (.t 17)⟩, []),
         (⟨(some 5), none, .move (.t 18)⟩, [])])
       (.seq (.ops [
          ⟨(some 19), none, .move (.t 0)⟩,
          ⟨(some 20), none, .load1 (.t 1)⟩,
          ⟨(some 21), none, .move (.t 4)⟩,
          ⟨(some 22), none, .move (.t 4)⟩,
          ⟨(some 23), none, .move (.t 5)⟩,
          ⟨(some 24), none, .bin .add false 3 (.t 22) (.t 23)⟩,
          ⟨(some 25), none, .move (.t 4)⟩,
          ⟨(some 26), none, .move (.t 5)⟩,
          ⟨(some 27), none, .bin .add false 3 (.t 25) (.t 26)⟩,
          ⟨(some 28), none, .slSl3 1 (.t 20) (some (.t 21)) (some (.t 24)) (.t 27)⟩,
          ⟨(some 29), none, .callV (.t 19) [(.t 28)]⟩,
          ⟨(some 30), none, .un .not (.t 29)⟩])
        (.cond (.t 30)
         .ret
         .skip))))
     (.ops [
       ⟨(some 10), none, .move (.t 4)⟩,
       ⟨(some 11), none, .load1 (.t 2)⟩,
       ⟨(some 12), none, .bin .add false 3 (.t 10) (.t 11)⟩,
       ⟨(some 4), none, .move (.t 12)⟩]))))))
theorem r_slices_Chunk_byte_byte_1 : resFn Try.prog 76 = some ⟨31, c_slices_Chunk_byte_byte_1.r, []⟩ := by kernel_rfl
theorem k_slices_Chunk_byte_byte_1 : c_slices_Chunk_byte_byte_1.ok = true := by kernel_rfl

def c_kit_Natural : LC :=
 (.seq (.ops [
   ⟨(some 4), none, .move (.c (.bool false))⟩])
 (.seq (.seq (.ops [
     ⟨(some 5), none, .move (.c (.i 0))⟩])
   (.block 0 (.loop (.seq (.seq (.ops [
         ⟨(some 8), none, .move (.t 5)⟩,
         ⟨(some 9), none, .move (.t 0)⟩,
         ⟨(some 10), none, .lenSl (.t 9)⟩,
         ⟨(some 11), none, .bin .lss false 3 (.t 8) (.t 10)⟩,
         ⟨(some 12), none, .move (.t 11)⟩,
         ⟨(some 13), (some (12, false)), .move (.t 5)⟩,
         ⟨(some 14), (some (12, false)), .move (.t 1)⟩,
         ⟨(some 15), (some (12, false)), .lenSl (.t 14)⟩,
         ⟨(some 16), (some (12, false)), .bin .lss false 3 (.t 13) (.t 15)⟩,
         ⟨(some 17), none, .pick (.t 12) (.c (.bool true)) (.t 16)⟩])
       (.cond (.t 17)
        .skip
        (.exit 0)))
      (.seq (.block 1 (.seq (.ops [
           ⟨(some 6), none, .move (.c (.u 0))⟩,
           ⟨(some 7), none, .move (.c (.u 0))⟩])
         (.seq (.seq (.ops [
             ⟨(some 20), none, .move (.t 5)⟩,
             ⟨(some 21), none, .move (.t 0)⟩,
             ⟨(some 22), none, .lenSl (.t 21)⟩,
             ⟨(some 23), none, .bin .lss false 3 (.t 20) (.t 22)⟩])
           (.cond (.t 23)
            (.ops [
              ⟨(some 24), none, .move (.t 0)⟩,
              ⟨(some 25), none, .move (.t 5)⟩,
              ⟨(some 26), none, .ixAddr 1 (.t 24) (.t 25)⟩,
              ⟨(some 27), none, .load1 (.t 26)⟩,
              ⟨(some 6), none, .move (.t 27)⟩])
            .skip))
          (.seq (.seq (.ops [
              ⟨(some 28), none, .move (.t 5)⟩,
              ⟨(some 29), none, .move (.t 1)⟩,
              ⟨(some 30), none, .lenSl (.t 29)⟩,
              ⟨(some 31), none, .bin .lss false 3 (.t 28) (.t 30)⟩])
            (.cond (.t 31)
             (.ops [
               ⟨(some 32), none, .move (.t 1)⟩,
               ⟨(some 33), none, .move (.t 5)⟩,
               ⟨(some 34), none, .ixAddr 1 (.t 32) (.t 33)⟩,
               ⟨(some 35), none, .load1 (.t 34)⟩,
               ⟨(some 7), none, .move (.t 35)⟩])
             .skip))
           (.seq (.ops [
              ⟨(some 36), none, .move (.t 6)⟩,
              ⟨(some 37), none, .move (.t 7)⟩,
              ⟨(some 38), none, .bin .neq false 29 (.t 36) (.t 37)⟩])
            (.cond (.t 38)
             (.seq (.ops [
                ⟨(some 4), none, .move (.c (.bool false))⟩])
              .ret)
             .skip))))))
       (.ops [
         ⟨(some 18), none, .move (.t 5)⟩,
         ⟨(some 19), none, .bin .add true 3 (.t 18) (.c (.i 1))⟩,
         ⟨(some 5), none, .move (.t 19)⟩]))))))
  (.seq (.ops [
     ⟨(some 4), none, .move (.c (.bool true))⟩])
   .ret)))
theorem r_kit_Natural : resFn Try.prog 15 = some ⟨39, c_kit_Natural.r, [.tmp 4]⟩ := by kernel_rfl
theorem k_kit_Natural : c_kit_Natural.ok = true := by kernel_rfl

def c_kit_Same_uint64 : LC :=
 (.seq (.ops [
   ⟨(some 4), none, .move (.c (.bool false))⟩])
 (.seq (.seq (.ops [
     ⟨(some 6), none, .move (.t 0)⟩,
     ⟨(some 7), none, .lenSl (.t 6)⟩,
     ⟨(some 8), none, .move (.t 1)⟩,
     ⟨(some 9), none, .lenSl (.t 8)⟩,
     ⟨(some 10), none, .bin .neq false 3 (.t 7) (.t 9)⟩])
   (.cond (.t 10)
    (.seq (.ops [
       ⟨(some 4), none, .move (.c (.bool false))⟩])
     .ret)
    .skip))
  (.seq (.seq (.ops [
      ⟨(some 5), none, .move (.c (.i 0))⟩])
    (.block 0 (.loop (.seq (.seq (.ops [
          ⟨(some 11), none, .move (.t 5)⟩,
          ⟨(some 12), none, .move (.t 0)⟩,
          ⟨(some 13), none, .lenSl (.t 12)⟩,
          ⟨(some 14), none, .bin .lss false 3 (.t 11) (.t 13)⟩])
        (.cond (.t 14)
         .skip
         (.exit 0)))
       (.seq (.block 1 (.seq (.draw [
            (⟨(some 17), none, .move (.t 0)⟩, []),
            (⟨(some 18), none, .move (.t 5)⟩, []),
            (⟨(some 19), none, .ixAddr 1 (.t 17) (.t 18)⟩, []),
            (⟨(some 20), none, .load1 (.t 19)⟩, []),
            (⟨(some 21), none, .move (.t 1)⟩, []),
            (⟨(some 22), none, .move (.t 5)⟩, []),
            (⟨(some 23), none, .ixAddr 1 (.t 21) (.t 22)⟩, []),
            (⟨(some 24), none, .load1 (.t 23)⟩, []),
            (⟨(some 25), none, .bin .neq false 29 (.t 20) (.t 24)⟩, [])])
          (.cond (.t 25)
           (.seq (.ops [
              ⟨(some 4), none, .move (.c (.bool false))⟩])
            .ret)
           .skip)))
        (.ops [
          ⟨(some 15), none, .move (.t 5)⟩,
          ⟨(some 16), none, .bin .add true 3 (.t 15) (.c (.i 1))⟩,
          ⟨(some 5), none, .move (.t 16)⟩]))))))
   (.seq (.ops [
      ⟨(some 4), none, .move (.c (.bool true))⟩])
    .ret))))
theorem r_kit_Same_uint64 : resFn Try.prog 19 = some ⟨26, c_kit_Same_uint64.r, [.tmp 4]⟩ := by kernel_rfl
theorem k_kit_Same_uint64 : c_kit_Same_uint64.ok = true := by kernel_rfl



theorem nat_Fit_ok (a : List UInt64) (n : Int) (ha : a.length ≤ 1000000) : FnS Try.prog 48 [LU a, .i n] (.tup [.dy 0 0, .i (fitE a n)]) [RU (fitR a n)] := by
  refine FnS.rowE (call_body r_nat_Fit k_nat_Fit (by simp) ?_)
  have hl := toL_length_val a
  by_cases h0 : n < 0
  · have e : fitE a n = 2 := if_pos (.inl h0)
    simp [c_nat_Fit, h0, e, fitR, RowAt]
  · by_cases h1 : 512 < n
    · have e : fitE a n = 2 := if_pos (.inr h1)
      simp [c_nat_Fit, h0, h1, e, fitR, RowAt]
    · simp [c_nat_Fit, h0, h1]
      refine CallL_row (nat_Trim_ok a (by omega)) (by simp) ?_
      by_cases h2 : n < (toL (val a)).length
      · have e : fitE a n = 3 := by unfold fitE; rw [if_neg (by omega), if_pos h2]
        simp [RU, h2, e, fitR, RowAt]
      · have e : fitE a n = 0 := by unfold fitE; rw [if_neg (by omega), if_neg h2]
        simp [RU, h2, e, fitR]
        refine ⟨by omega, fun h3 => ⟨by omega, by omega, by omega, by omega, .inr ⟨0, 1, 1, rfl, ?_⟩⟩⟩
        rw [repU]
        simp

theorem marshal_put_ok {G : LHeap} {v : LV} {l : List UInt8} {n : UInt64} {K : LV → LHeap → Prop} (h : RowB G v l) (hl : l.length ≤ 1000000) (k : ∀ v' G', RowB G' v' (l ++ bytesN n 8) → K v' G') : CallL Try.prog (.fn 49) [v, .u n] G K := by
  refine call_body r_marshal_put k_marshal_put (by simp) ?_
  simp [c_marshal_put]
  refine loop_nx (fun ρ D G N => ∃ i : Nat, D = [] ∧ N + i = 8 ∧ lk ρ 1 = .u n ∧ lk ρ 6 = .i i ∧ RowB G (lk ρ 0) (l ++ bytesN n i)) (N := 8) ⟨0, by simpa [bytesN] using h⟩ ?_
  rintro N ρ D G ⟨i, rfl, hN, h1, h6, h0⟩ Nx hNx
  by_cases hz : N = 0
  · have hi : i = 8 := by omega
    subst hi
    simp [h6]
    exact k _ _ h0
  · have hi : (i : Int) < 8 := by omega
    simp [h6, h1, hi]
    refine ⟨by omega, by omega, ?_⟩
    have e8 : (8 * (i : Int)).toNat = 8 * i := by omega
    refine appL_bytes (h0.app _) (xs := [uB (shrU n (8 * i))]) rfl (by simp [e8]) (by simp [bytesN_length]; omega) (fun v' G' hr _ => ?_)
    simp [h6]
    refine ⟨by omega, hNx _ _ _ ⟨N - 1, by omega, i + 1, rfl, by omega, by simp [h1], by simp, by simpa [bytesN] using hr⟩⟩

theorem marshal_Bytes_ok (a : List UInt64) (n : Int) (ha : a.length ≤ 1000000) : FnS Try.prog 12 [LU a, .i n] (.tup [.str (bytesUs (fitR a n)), .i (fitE a n)]) [] := by
  refine FnS.val rfl (call_body r_marshal_Bytes k_marshal_Bytes (by simp) ?_)
  simp [c_marshal_Bytes]
  refine CallL_F (nat_Fit_ok a n ha) (by simp) ?_
  by_cases h0 : fitE a n = 0
  · have hlen : (fitR a n).length ≤ 1000 := by
      have := fitR_length h0
      omega
    generalize fitR a n = x at hlen
    simp [h0, RU]
    refine loop_nx (fun ρ D G N => ∃ i : Nat, D = [] ∧ N + i = x.length ∧ lk ρ 20 = LU x ∧ lk ρ 21 = .i x.length ∧ lk ρ 22 = .i i ∧ RowB G (lk ρ 8) (bytesUs (x.take i))) (N := x.length) ⟨0, by simp [bytesUs, RowB]⟩ ?_
    rintro N ρ D G ⟨i, rfl, hN, h20, h21, h22, h8⟩ Nx hNx
    by_cases hz : N = 0
    · have hi : i = x.length := by omega
      subst hi
      simp [h22, h21]
      refine RowB.str h8 ?_
      simp
    · have hi : i < x.length := by omega
      simp [h22, h21, h20, hi]
      refine marshal_put_ok h8 (by rw [bytesUs_length]; simp; omega) (fun v' G' hr => ?_)
      simp [h22]
      refine ⟨by omega, hNx _ _ _ ⟨N - 1, by omega, i + 1, rfl, by omega, by simp [h20], by simp [h21], by simp, ?_⟩⟩
      rw [bytesUs_next hi]
      simpa [hi] using hr
  · have e : fitR a n = [] := if_neg h0
    simp [h0, e, RU, bytesUs]

theorem marshal_limb_ok (s : List UInt8) (hs : s.length ≤ 8) : FnS Try.prog 51 [LB s] (.u (limbN s s.length)) [] := by
  refine FnS.val rfl (call_body r_marshal_limb k_marshal_limb (by simp) ?_)
  simp [c_marshal_limb]
  refine loop_nx (fun ρ D G N => ∃ i : Nat, D = [] ∧ N + i = s.length ∧ lk ρ 5 = LB s ∧ lk ρ 6 = .i s.length ∧ lk ρ 7 = .i i ∧ lk ρ 2 = .u (limbN s i)) (N := s.length) ⟨0, by simp [limbN]⟩ ?_
  rintro N ρ D G ⟨i, rfl, hN, h5, h6, h7, h2⟩ Nx hNx
  by_cases hz : N = 0
  · have hi : i = s.length := by omega
    subst hi
    simp [h7, h6, h2]
  · have hi : i < s.length := by omega
    simp [h7, h6, h5, h2, hi]
    refine ⟨by omega, by omega, by omega, hNx _ _ _ ⟨N - 1, by omega, i + 1, rfl, by omega, by simp [h5], by simp [h6], by simp, ?_⟩⟩
    have e8 : (8 * (i : Int)).toNat = 8 * i := by omega
    simp [limbN, hi, e8]
end Go.Proofs.Ytlfffpmdofacjaa
