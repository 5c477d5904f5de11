/- Numbers modulo another one: what the functions come to. -/
import Derived.Test.YtlfffpmdofacjaaFnL
import Derived.Test.YtlfffpmdofacjaaSvG4
namespace Go.Proofs.Ytlfffpmdofacjaa
open Go.Sv
set_option linter.unusedSimpArgs false

def c_modular_rest : LC :=
 (.seq (.ops [
   ⟨(some 4), none, .move (.c .nilSl)⟩,
   ⟨(some 5), none, .move (.c (.i 0))⟩])
 (.seq (.ops [
    ⟨(some 10), none, .move (.t 0)⟩,
    ⟨(some 11), none, .move (.t 1)⟩,
    ⟨(some 12), none, .callV (.c (.fn (.func 66) [] [])) [(.t 10), (.t 11)]⟩,
    ⟨(some 9), none, .move (.t 12)⟩,
    ⟨(some 13), none, .extract 0 (.t 9)⟩,
    ⟨(some 14), none, .extract 1 (.t 9)⟩,
    ⟨(some 15), none, .extract 2 (.t 9)⟩,
    ⟨(some 6), none, .move (.t 13)⟩,
    ⟨(some 7), none, .move (.t 14)⟩,
    ⟨(some 8), none, .move (.t 15)⟩])
  (.seq (.ops [
     ⟨(some 16), none, .move (.t 7)⟩,
     ⟨(some 17), none, .move (.t 8)⟩,
     ⟨(some 4), none, .move (.t 16)⟩,
     ⟨(some 5), none, .move (.t 17)⟩])
   .ret)))
theorem r_modular_rest : resFn Try.prog 55 = some ⟨18, c_modular_rest.r, [.tmp 4, .tmp 5]⟩ := by kernel_rfl
theorem k_modular_rest : c_modular_rest.ok = true := by kernel_rfl

def c_modular_Add : LC :=
 (.seq (.ops [
   ⟨(some 6), none, .move (.c .nilSl)⟩,
   ⟨(some 7), none, .move (.c (.i 0))⟩])
 (.seq (.ops [
    ⟨(some 8), none, .move (.t 0)⟩,
    ⟨(some 9), none, .move (.t 1)⟩,
    ⟨(some 10), none, .callV (.c (.fn (.func 64) [] [])) [(.t 8), (.t 9)]⟩,
    ⟨(some 11), none, .move (.t 2)⟩,
    ⟨(some 12), none, .callV (.c (.fn (.func 55) [] [])) [(.t 10), (.t 11)]⟩,
    ⟨(some 13), none, .extract 0 (.t 12)⟩,
    ⟨(some 14), none, .extract 1 (.t 12)⟩,
    ⟨(some 6), none, .move (.t 13)⟩,
    ⟨(some 7), none, .move (.t 14)⟩])
  .ret))
theorem r_modular_Add : resFn Try.prog 30 = some ⟨15, c_modular_Add.r, [.tmp 6, .tmp 7]⟩ := by kernel_rfl
theorem k_modular_Add : c_modular_Add.ok = true := by kernel_rfl

def c_modular_Sub : LC :=
 (.seq (.ops [
   ⟨(some 6), none, .move (.c .nilSl)⟩,
   ⟨(some 7), none, .move (.c (.i 0))⟩])
 (.seq (.ops [
    ⟨(some 13), none, .move (.t 0)⟩,
    ⟨(some 14), none, .move (.t 2)⟩,
    ⟨(some 15), none, .callV (.c (.fn (.func 55) [] [])) [(.t 13), (.t 14)]⟩,
    ⟨(some 12), none, .move (.t 15)⟩,
    ⟨(some 16), none, .extract 0 (.t 12)⟩,
    ⟨(some 17), none, .extract 1 (.t 12)⟩,
    ⟨(some 8), none, .move (.t 16)⟩,
    ⟨(some 9), none, .move (.t 17)⟩])
  (.seq (.seq (.ops [
      ⟨(some 18), none, .move (.t 9)⟩,
      ⟨(some 19), none, .bin .neq true 25 (.t 18) (.c (.i 0))⟩])
    (.cond (.t 19)
     (.seq (.ops [
        ⟨(some 20), none, .move (.t 9)⟩,
        ⟨(some 6), none, .move (.c .nilSl)⟩,
        ⟨(some 7), none, .move (.t 20)⟩])
      .ret)
     .skip))
   (.seq (.ops [
      ⟨(some 22), none, .move (.t 1)⟩,
      ⟨(some 23), none, .move (.t 2)⟩,
      ⟨(some 24), none, .callV (.c (.fn (.func 55) [] [])) [(.t 22), (.t 23)]⟩,
      ⟨(some 21), none, .move (.t 24)⟩,
      ⟨(some 25), none, .extract 0 (.t 21)⟩,
      ⟨(some 26), none, .extract 1 (.t 21)⟩,
      ⟨(some 10), none, .move (.t 25)⟩,
      ⟨(some 9), none, .move (.t 26)⟩])
    (.seq (.seq (.ops [
        ⟨(some 27), none, .move (.t 9)⟩,
        ⟨(some 28), none, .bin .neq true 25 (.t 27) (.c (.i 0))⟩])
      (.cond (.t 28)
       (.seq (.ops [
          ⟨(some 29), none, .move (.t 9)⟩,
          ⟨(some 6), none, .move (.c .nilSl)⟩,
          ⟨(some 7), none, .move (.t 29)⟩])
        .ret)
       .skip))
     (.seq (.ops [
        ⟨(some 31), none, .move (.t 8)⟩,
        ⟨(some 32), none, .move (.t 2)⟩,
        ⟨(some 33), none, .callV (.c (.fn (.func 64) [] [])) [(.t 31), (.t 32)]⟩,
        ⟨(some 34), none, .move (.t 10)⟩,
        ⟨(some 35), none, .callV (.c (.fn (.func 65) [] [])) [(.t 33), (.t 34)]⟩,
        ⟨(some 30), none, .move (.t 35)⟩,
        ⟨(some 36), none, .extract 0 (.t 30)⟩,
        ⟨(some 37), none, .extract 1 (.t 30)⟩,
        ⟨(some 11), none, .move (.t 36)⟩,
        ⟨(some 9), none, .move (.t 37)⟩])
      (.seq (.seq (.ops [
          ⟨(some 38), none, .move (.t 9)⟩,
          ⟨(some 39), none, .bin .neq true 25 (.t 38) (.c (.i 0))⟩])
        (.cond (.t 39)
         (.seq (.ops [
            ⟨(some 40), none, .move (.t 9)⟩,
            ⟨(some 6), none, .move (.c .nilSl)⟩,
            ⟨(some 7), none, .move (.t 40)⟩])
          .ret)
         .skip))
       (.seq (.ops [
          ⟨(some 41), none, .move (.t 11)⟩,
          ⟨(some 42), none, .move (.t 2)⟩,
          ⟨(some 43), none, .callV (.c (.fn (.func 55) [] [])) [(.t 41), (.t 42)]⟩,
          ⟨(some 44), none, .extract 0 (.t 43)⟩,
          ⟨(some 45), none, .extract 1 (.t 43)⟩,
          ⟨(some 6), none, .move (.t 44)⟩,
          ⟨(some 7), none, .move (.t 45)⟩])
        .ret))))))))
theorem r_modular_Sub : resFn Try.prog 31 = some ⟨46, c_modular_Sub.r, [.tmp 6, .tmp 7]⟩ := by kernel_rfl
theorem k_modular_Sub : c_modular_Sub.ok = true := by kernel_rfl

def c_modular_Mul : LC :=
 (.seq (.ops [
   ⟨(some 6), none, .move (.c .nilSl)⟩,
   ⟨(some 7), none, .move (.c (.i 0))⟩])
 (.seq (.ops [
    ⟨(some 8), none, .move (.t 0)⟩,
    ⟨(some 9), none, .move (.t 1)⟩,
    ⟨(some 10), none, .callV (.c (.fn (.func 59) [] [])) [(.t 8), (.t 9)]⟩,
    ⟨(some 11), none, .move (.t 2)⟩,
    ⟨(some 12), none, .callV (.c (.fn (.func 55) [] [])) [(.t 10), (.t 11)]⟩,
    ⟨(some 13), none, .extract 0 (.t 12)⟩,
    ⟨(some 14), none, .extract 1 (.t 12)⟩,
    ⟨(some 6), none, .move (.t 13)⟩,
    ⟨(some 7), none, .move (.t 14)⟩])
  .ret))
theorem r_modular_Mul : resFn Try.prog 26 = some ⟨15, c_modular_Mul.r, [.tmp 6, .tmp 7]⟩ := by kernel_rfl
theorem k_modular_Mul : c_modular_Mul.ok = true := by kernel_rfl

def c_ref03_rest : LC :=
 (.seq (.ops [
   ⟨(some 4), none, .move (.c .nilSl)⟩,
   ⟨(some 5), none, .move (.c (.i 0))⟩])
 (.seq (.ops [
    ⟨(some 10), none, .move (.t 0)⟩,
    ⟨(some 11), none, .move (.t 1)⟩,
    ⟨(some 12), none, .callV (.c (.fn (.func 29) [] [])) [(.t 10), (.t 11)]⟩,
    ⟨(some 9), none, .move (.t 12)⟩,
    ⟨(some 13), none, .extract 0 (.t 9)⟩,
    ⟨(some 14), none, .extract 1 (.t 9)⟩,
    ⟨(some 15), none, .extract 2 (.t 9)⟩,
    ⟨(some 6), none, .move (.t 13)⟩,
    ⟨(some 7), none, .move (.t 14)⟩,
    ⟨(some 8), none, .move (.t 15)⟩])
  (.seq (.ops [
     ⟨(some 16), none, .move (.t 7)⟩,
     ⟨(some 17), none, .move (.t 8)⟩,
     ⟨(some 4), none, .move (.t 16)⟩,
     ⟨(some 5), none, .move (.t 17)⟩])
   .ret)))
theorem r_ref03_rest : resFn Try.prog 71 = some ⟨18, c_ref03_rest.r, [.tmp 4, .tmp 5]⟩ := by kernel_rfl
theorem k_ref03_rest : c_ref03_rest.ok = true := by kernel_rfl

def c_ref03_Add : LC :=
 (.seq (.ops [
   ⟨(some 6), none, .move (.c .nilSl)⟩,
   ⟨(some 7), none, .move (.c (.i 0))⟩])
 (.seq (.ops [
    ⟨(some 8), none, .move (.t 0)⟩,
    ⟨(some 9), none, .move (.t 1)⟩,
    ⟨(some 10), none, .callV (.c (.fn (.func 16) [] [])) [(.t 8), (.t 9)]⟩,
    ⟨(some 11), none, .move (.t 2)⟩,
    ⟨(some 12), none, .callV (.c (.fn (.func 71) [] [])) [(.t 10), (.t 11)]⟩,
    ⟨(some 13), none, .extract 0 (.t 12)⟩,
    ⟨(some 14), none, .extract 1 (.t 12)⟩,
    ⟨(some 6), none, .move (.t 13)⟩,
    ⟨(some 7), none, .move (.t 14)⟩])
  .ret))
theorem r_ref03_Add : resFn Try.prog 39 = some ⟨15, c_ref03_Add.r, [.tmp 6, .tmp 7]⟩ := by kernel_rfl
theorem k_ref03_Add : c_ref03_Add.ok = true := by kernel_rfl

def c_ref03_Sub : LC :=
 (.seq (.ops [
   ⟨(some 6), none, .move (.c .nilSl)⟩,
   ⟨(some 7), none, .move (.c (.i 0))⟩])
 (.seq (.ops [
    ⟨(some 15), none, .move (.t 0)⟩,
    ⟨(some 16), none, .move (.t 2)⟩,
    ⟨(some 17), none, .callV (.c (.fn (.func 71) [] [])) [(.t 15), (.t 16)]⟩,
    ⟨(some 14), none, .move (.t 17)⟩,
    ⟨(some 18), none, .extract 0 (.t 14)⟩,
    ⟨(some 19), none, .extract 1 (.t 14)⟩,
    ⟨(some 8), none, .move (.t 18)⟩,
    ⟨(some 9), none, .move (.t 19)⟩])
  (.seq (.seq (.ops [
      ⟨(some 20), none, .move (.t 9)⟩,
      ⟨(some 21), none, .bin .neq true 25 (.t 20) (.c (.i 0))⟩])
    (.cond (.t 21)
     (.seq (.ops [
        ⟨(some 22), none, .move (.t 9)⟩,
        ⟨(some 6), none, .move (.c .nilSl)⟩,
        ⟨(some 7), none, .move (.t 22)⟩])
      .ret)
     .skip))
   (.seq (.ops [
      ⟨(some 24), none, .move (.t 1)⟩,
      ⟨(some 25), none, .move (.t 2)⟩,
      ⟨(some 26), none, .callV (.c (.fn (.func 71) [] [])) [(.t 24), (.t 25)]⟩,
      ⟨(some 23), none, .move (.t 26)⟩,
      ⟨(some 27), none, .extract 0 (.t 23)⟩,
      ⟨(some 28), none, .extract 1 (.t 23)⟩,
      ⟨(some 10), none, .move (.t 27)⟩,
      ⟨(some 11), none, .move (.t 28)⟩])
    (.seq (.ops [
       ⟨(some 30), none, .move (.t 8)⟩,
       ⟨(some 31), none, .move (.t 2)⟩,
       ⟨(some 32), none, .callV (.c (.fn (.func 16) [] [])) [(.t 30), (.t 31)]⟩,
       ⟨(some 33), none, .move (.t 10)⟩,
       ⟨(some 34), none, .callV (.c (.fn (.func 63) [] [])) [(.t 32), (.t 33)]⟩,
       ⟨(some 29), none, .move (.t 34)⟩,
       ⟨(some 35), none, .extract 0 (.t 29)⟩,
       ⟨(some 36), none, .extract 1 (.t 29)⟩,
       ⟨(some 12), none, .move (.t 35)⟩,
       ⟨(some 13), none, .move (.t 36)⟩])
     (.seq (.ops [
        ⟨(some 37), none, .move (.t 12)⟩,
        ⟨(some 38), none, .move (.t 2)⟩,
        ⟨(some 39), none, .callV (.c (.fn (.func 71) [] [])) [(.t 37), (.t 38)]⟩,
        ⟨(some 40), none, .extract 0 (.t 39)⟩,
        ⟨(some 41), none, .extract 1 (.t 39)⟩,
        ⟨(some 6), none, .move (.t 40)⟩,
        ⟨(some 7), none, .move (.t 41)⟩])
      .ret))))))
theorem r_ref03_Sub : resFn Try.prog 40 = some ⟨42, c_ref03_Sub.r, [.tmp 6, .tmp 7]⟩ := by kernel_rfl
theorem k_ref03_Sub : c_ref03_Sub.ok = true := by kernel_rfl

def c_ref03_Mul : LC :=
 (.seq (.ops [
   ⟨(some 6), none, .move (.c .nilSl)⟩,
   ⟨(some 7), none, .move (.c (.i 0))⟩])
 (.seq (.ops [
    ⟨(some 8), none, .move (.t 0)⟩,
    ⟨(some 9), none, .move (.t 1)⟩,
    ⟨(some 10), none, .callV (.c (.fn (.func 27) [] [])) [(.t 8), (.t 9)]⟩,
    ⟨(some 11), none, .move (.t 2)⟩,
    ⟨(some 12), none, .callV (.c (.fn (.func 71) [] [])) [(.t 10), (.t 11)]⟩,
    ⟨(some 13), none, .extract 0 (.t 12)⟩,
    ⟨(some 14), none, .extract 1 (.t 12)⟩,
    ⟨(some 6), none, .move (.t 13)⟩,
    ⟨(some 7), none, .move (.t 14)⟩])
  .ret))
theorem r_ref03_Mul : resFn Try.prog 41 = some ⟨15, c_ref03_Mul.r, [.tmp 6, .tmp 7]⟩ := by kernel_rfl
theorem k_ref03_Mul : c_ref03_Mul.ok = true := by kernel_rfl

def c_ref03_Gcd : LC :=
 (.seq (.ops [
   ⟨(some 4), none, .move (.c .nilSl)⟩])
 (.seq (.ops [
    ⟨(some 8), none, .move (.t 0)⟩,
    ⟨(some 9), none, .callV (.c (.fn (.func 18) [] [])) [(.t 8)]⟩,
    ⟨(some 10), none, .move (.t 1)⟩,
    ⟨(some 11), none, .callV (.c (.fn (.func 18) [] [])) [(.t 10)]⟩,
    ⟨(some 0), none, .move (.t 9)⟩,
    ⟨(some 1), none, .move (.t 11)⟩])
  (.seq (.block 0 (.loop (.seq (.seq (.ops [
         ⟨(some 12), none, .move (.t 1)⟩,
         ⟨(some 13), none, .lenSl (.t 12)⟩,
         ⟨(some 14), none, .bin .gtr true 3 (.t 13) (.c (.i 0))⟩])
       (.cond (.t 14)
        .skip
        (.exit 0)))
      (.block 1 (.seq (.ops [
          ⟨(some 16), none, .move (.t 0)⟩,
          ⟨(some 17), none, .move (.t 1)⟩,
          ⟨(some 18), none, .callV (.c (.fn (.func 29) [] [])) [(.t 16), (.t 17)]⟩,
          ⟨(some 15), none, .move (.t 18)⟩,
          ⟨(some 19), none, .extract 0 (.t 15)⟩,
          ⟨(some 20), none, .extract 1 (.t 15)⟩,
          ⟨(some 21), none, .extract 2 (.t 15)⟩,
          ⟨(some 5), none, .move (.t 19)⟩,
          ⟨(some 6), none, .move (.t 20)⟩,
          ⟨(some 7), none, .move (.t 21)⟩])
        (.ops [
          ⟨(some 22), none, .move (.t 1)⟩,
          ⟨(some 23), none, .move (.t 6)⟩,
          ⟨(some 0), none, .move (.t 22)⟩,
          ⟨(some 1), none, .move (.t 23)⟩]))))))
   (.seq (.ops [
      ⟨(some 24), none, .move (.t 0)⟩,
      ⟨(some 4), none, .move (.t 24)⟩])
    .ret))))
theorem r_ref03_Gcd : resFn Try.prog 47 = some ⟨25, c_ref03_Gcd.r, [.tmp 4]⟩ := by kernel_rfl
theorem k_ref03_Gcd : c_ref03_Gcd.ok = true := by kernel_rfl

def c_modular_Gcd : LC :=
 (.seq (.ops [
   ⟨(some 4), none, .move (.c .nilSl)⟩])
 (.seq (.ops [
    ⟨(some 8), none, .move (.t 0)⟩,
    ⟨(some 9), none, .callV (.c (.fn (.func 52) [] [])) [(.t 8)]⟩,
    ⟨(some 10), none, .move (.t 1)⟩,
    ⟨(some 11), none, .callV (.c (.fn (.func 52) [] [])) [(.t 10)]⟩,
    ⟨(some 0), none, .move (.t 9)⟩,
    ⟨(some 1), none, .move (.t 11)⟩])
  (.seq (.block 0 (.loop (.seq (.seq (.ops [
         ⟨(some 12), none, .move (.t 1)⟩,
         ⟨(some 13), none, .lenSl (.t 12)⟩,
         ⟨(some 14), none, .bin .gtr true 3 (.t 13) (.c (.i 0))⟩])
       (.cond (.t 14)
        .skip
        (.exit 0)))
      (.block 1 (.seq (.ops [
          ⟨(some 16), none, .move (.t 0)⟩,
          ⟨(some 17), none, .move (.t 1)⟩,
          ⟨(some 18), none, .callV (.c (.fn (.func 66) [] [])) [(.t 16), (.t 17)]⟩,
          ⟨(some 15), none, .move (.t 18)⟩,
          ⟨(some 19), none, .extract 0 (.t 15)⟩,
          ⟨(some 20), none, .extract 1 (.t 15)⟩,
          ⟨(some 21), none, .extract 2 (.t 15)⟩,
          ⟨(some 5), none, .move (.t 19)⟩,
          ⟨(some 6), none, .move (.t 20)⟩,
          ⟨(some 7), none, .move (.t 21)⟩])
        (.ops [
          ⟨(some 22), none, .move (.t 1)⟩,
          ⟨(some 23), none, .move (.t 6)⟩,
          ⟨(some 0), none, .move (.t 22)⟩,
          ⟨(some 1), none, .move (.t 23)⟩]))))))
   (.seq (.ops [
      ⟨(some 24), none, .move (.t 0)⟩,
      ⟨(some 4), none, .move (.t 24)⟩])
    .ret))))
theorem r_modular_Gcd : resFn Try.prog 34 = some ⟨25, c_modular_Gcd.r, [.tmp 4]⟩ := by kernel_rfl
theorem k_modular_Gcd : c_modular_Gcd.ok = true := by kernel_rfl



theorem toL_add_len (a b : List UInt64) : (toL (val a + val b)).length ≤ max a.length b.length + 1 := by
  refine toL_length_le ?_
  have h1 := val_bound (a := a) (n := max a.length b.length) (by omega)
  have h2 := val_bound (a := b) (n := max a.length b.length) (by omega)
  rw [pow64]; omega
theorem toL_mul_len (a b : List UInt64) : (toL (val a * val b)).length ≤ a.length + b.length := by
  refine toL_length_le ?_
  have h1 := val_lt a
  have h2 := val_lt b
  rw [Nat.mul_add, Nat.pow_add]
  exact Nat.mul_lt_mul'' h1 h2
theorem mR_len (a n : List UInt64) (h : val n ≠ 0) : (toL (val a % val n)).length ≤ n.length := toL_len_lt (Nat.mod_lt _ (by omega))

theorem modular_rest_ok (a n : List UInt64) (ha : a.length ≤ 10000) (hn : n.length ≤ 10000) : FnS Try.prog 55 [LU a, LU n] (.tup [.dy 0 0, .i (mE (val n))]) [RU (mR (val n) (val a % val n))] := by
  refine FnS.rowE (call_body r_modular_rest k_modular_rest (by simp) ?_)
  simp [c_modular_rest]
  refine CallL_S (nat_Div_ok a n ha hn) (by simp) ?_
  by_cases h : val n = 0
  · simp [h, mE, mR]
    exact .inr ⟨1, 0, 0, rfl, by simp [RU]⟩
  · simp [h, mE, mR]
    exact .inr ⟨1, 0, 0, rfl, by simp [RU]⟩
theorem ref03_rest_ok (a n : List UInt64) (ha : a.length ≤ 10000) (hn : n.length ≤ 10000) : FnS Try.prog 71 [LU a, LU n] (.tup [.dy 0 0, .i (mE (val n))]) [RU (mR (val n) (val a % val n))] := by
  refine FnS.rowE (call_body r_ref03_rest k_ref03_rest (by simp) ?_)
  simp [c_ref03_rest]
  refine CallL_S (ref02_Div_ok a n ha hn) (by simp) ?_
  by_cases h : val n = 0
  · simp [h, mE, mR]
    exact .inr ⟨1, 0, 0, rfl, by simp [RU]⟩
  · simp [h, mE, mR]
    exact .inr ⟨1, 0, 0, rfl, by simp [RU]⟩
theorem modular_Add_ok (a b n : List UInt64) (ha : a.length ≤ 4000) (hb : b.length ≤ 4000) (hn : n.length ≤ 4000) : FnS Try.prog 30 [LU a, LU b, LU n] (.tup [.dy 0 0, .i (mE (val n))]) [RU (mR (val n) ((val a + val b) % val n))] := by
  refine FnS.rowE (call_body r_modular_Add k_modular_Add (by simp) ?_)
  have hl := toL_add_len a b
  simp [c_modular_Add]
  refine CallL_F (nat_Add_ok a b (by omega) (by omega)) (by simp) ?_
  simp [RU]
  refine CallL_S (modular_rest_ok (toL (val a + val b)) n (by omega) (by omega)) (by simp) ?_
  simp [val_toL]
  exact .inr ⟨0, 0, 0, rfl, by simp [RU]⟩
theorem ref03_Add_ok (a b n : List UInt64) (ha : a.length ≤ 4000) (hb : b.length ≤ 4000) (hn : n.length ≤ 4000) : FnS Try.prog 39 [LU a, LU b, LU n] (.tup [.dy 0 0, .i (mE (val n))]) [RU (mR (val n) ((val a + val b) % val n))] := by
  refine FnS.rowE (call_body r_ref03_Add k_ref03_Add (by simp) ?_)
  have hl := toL_add_len a b
  simp [c_ref03_Add]
  refine CallL_F (ref02_Add_ok a b (by omega) (by omega)) (by simp) ?_
  simp [RU]
  refine CallL_S (ref03_rest_ok (toL (val a + val b)) n (by omega) (by omega)) (by simp) ?_
  simp [val_toL]
  exact .inr ⟨0, 0, 0, rfl, by simp [RU]⟩
theorem modular_Mul_ok (a b n : List UInt64) (ha : a.length ≤ 4000) (hb : b.length ≤ 4000) (hn : n.length ≤ 4000) : FnS Try.prog 26 [LU a, LU b, LU n] (.tup [.dy 0 0, .i (mE (val n))]) [RU (mR (val n) (val a * val b % val n))] := by
  refine FnS.rowE (call_body r_modular_Mul k_modular_Mul (by simp) ?_)
  have hl := toL_mul_len a b
  simp [c_modular_Mul]
  refine CallL_F (nat_Mul_ok a b (by omega) (by omega)) (by simp) ?_
  simp [RU]
  refine CallL_S (modular_rest_ok (toL (val a * val b)) n (by omega) (by omega)) (by simp) ?_
  simp [val_toL]
  exact .inr ⟨0, 0, 0, rfl, by simp [RU]⟩
theorem ref03_Mul_ok (a b n : List UInt64) (ha : a.length ≤ 4000) (hb : b.length ≤ 4000) (hn : n.length ≤ 4000) : FnS Try.prog 41 [LU a, LU b, LU n] (.tup [.dy 0 0, .i (mE (val n))]) [RU (mR (val n) (val a * val b % val n))] := by
  refine FnS.rowE (call_body r_ref03_Mul k_ref03_Mul (by simp) ?_)
  have hl := toL_mul_len a b
  simp [c_ref03_Mul]
  refine CallL_F (ref02_Mul_ok a b (by omega) (by omega)) (by simp) ?_
  simp [RU]
  refine CallL_S (ref03_rest_ok (toL (val a * val b)) n (by omega) (by omega)) (by simp) ?_
  simp [val_toL]
  exact .inr ⟨0, 0, 0, rfl, by simp [RU]⟩
theorem modular_Sub_ok (a b n : List UInt64) (ha : a.length ≤ 4000) (hb : b.length ≤ 4000) (hn : n.length ≤ 4000) : FnS Try.prog 31 [LU a, LU b, LU n] (.tup [.dy 0 0, .i (mE (val n))]) [RU (mR (val n) (subM (val a) (val b) (val n)))] := by
  refine FnS.rowE (call_body r_modular_Sub k_modular_Sub (by simp) ?_)
  simp [c_modular_Sub]
  refine CallL_F (modular_rest_ok a n (by omega) (by omega)) (by simp) ?_
  by_cases h : val n = 0
  · simp [RU, h, mE, mR, RowAt]
  have l1 := mR_len a n h
  have l2 := mR_len b n h
  simp [RU, mE_p h, mR_p h]
  refine CallL_F (modular_rest_ok b n (by omega) (by omega)) (by simp) ?_
  simp [RU, mE_p h, mR_p h]
  have l3 := toL_add_len (toL (val a % val n)) n
  refine CallL_F (nat_Add_ok (toL (val a % val n)) n (by omega) (by omega)) (by simp) ?_
  have hlt : ¬ val a % val n + val n < val b % val n := by have := Nat.mod_lt (val b) (show 0 < val n by omega); omega
  simp [RU]
  rw [val_toL]
  rw [val_toL] at l3
  refine CallL_F (nat_Sub_ok (toL (val a % val n + val n)) (toL (val b % val n)) (by omega) (by omega)) (by simp) ?_
  have l4 : (toL (val a % val n + val n - val b % val n)).length ≤ (toL (val a % val n + val n)).length := toL_len_le (by rw [val_toL]; omega)
  simp [RU, val_toL, hlt]
  refine CallL_S (modular_rest_ok (toL (val a % val n + val n - val b % val n)) n (by omega) (by omega)) (by simp) ?_
  simp [val_toL, mE_p h, mR_p h]
  exact .inr ⟨0, 0, 0, rfl, by simp [RU, subM]⟩
theorem ref03_Sub_ok (a b n : List UInt64) (ha : a.length ≤ 4000) (hb : b.length ≤ 4000) (hn : n.length ≤ 4000) : FnS Try.prog 40 [LU a, LU b, LU n] (.tup [.dy 0 0, .i (mE (val n))]) [RU (mR (val n) (subM (val a) (val b) (val n)))] := by
  refine FnS.rowE (call_body r_ref03_Sub k_ref03_Sub (by simp) ?_)
  simp [c_ref03_Sub]
  refine CallL_F (ref03_rest_ok a n (by omega) (by omega)) (by simp) ?_
  by_cases h : val n = 0
  · simp [RU, h, mE, mR, RowAt]
  have l1 := mR_len a n h
  have l2 := mR_len b n h
  simp [RU, mE_p h, mR_p h]
  refine CallL_F (ref03_rest_ok b n (by omega) (by omega)) (by simp) ?_
  simp [RU, mE_p h, mR_p h]
  have l3 := toL_add_len (toL (val a % val n)) n
  refine CallL_F (ref02_Add_ok (toL (val a % val n)) n (by omega) (by omega)) (by simp) ?_
  have hlt : ¬ val a % val n + val n < val b % val n := by have := Nat.mod_lt (val b) (show 0 < val n by omega); omega
  simp [RU]
  rw [val_toL]
  rw [val_toL] at l3
  refine CallL_F (ref02_Sub_ok (toL (val a % val n + val n)) (toL (val b % val n)) (by omega) (by omega)) (by simp) ?_
  have l4 : (toL (val a % val n + val n - val b % val n)).length ≤ (toL (val a % val n + val n)).length := toL_len_le (by rw [val_toL]; omega)
  simp [RU, val_toL, hlt]
  refine CallL_S (ref03_rest_ok (toL (val a % val n + val n - val b % val n)) n (by omega) (by omega)) (by simp) ?_
  simp [val_toL, mE_p h, mR_p h]
  exact .inr ⟨0, 0, 0, rfl, by simp [RU, subM]⟩
theorem modular_Gcd_ok (a0 b0 : List UInt64) (ha : a0.length ≤ 4000) (hb : b0.length ≤ 4000) : FnV Try.prog 34 [LU a0, LU b0] (LU (toL (Nat.gcd (val a0) (val b0)))) := by
  refine FnV.mk (by simp [LV.dat]) (call_body r_modular_Gcd k_modular_Gcd (by simp) ?_)
  have h1 := toL_length_val a0
  have h2 := toL_length_val b0
  simp [c_modular_Gcd]
  refine CallL_F (nat_Trim_ok a0 (by omega)) (by simp) ?_
  simp [RU]
  refine CallL_F (nat_Trim_ok b0 (by omega)) (by simp) ?_
  simp [RU]
  refine loop_nx (fun ρ D G N => ∃ x, D = [] ∧ lk ρ 0 = LU (toL x) ∧ lk ρ 1 = LU (toL N) ∧ Nat.gcd x N = Nat.gcd (val a0) (val b0) ∧ (toL x).length ≤ 4000 ∧ (toL N).length ≤ 4000) (N := val b0) ⟨val a0, by simp; omega⟩ ?_
  rintro N ρ D G ⟨x, rfl, e0, e1, hg, l1, l2⟩ Nx hNx
  by_cases hz : N = 0
  · subst hz
    simp [toL_zero] at e1
    simp at hg
    simp [e0, e1, hg]
  · have hp : toL N ≠ [] := fun e => hz (toL_eq_nil.1 e)
    have hp2 : 0 < (toL N).length := List.length_pos_iff.2 hp
    simp [e0, e1, hp, hp2]
    refine CallL_F (nat_Div_ok (toL x) (toL N) (by omega) (by omega)) (by simp) ?_
    have l3 : (toL (x % N)).length ≤ (toL N).length := toL_len_lt (by rw [val_toL]; exact Nat.mod_lt _ (by omega))
    simp [RU, val_toL, hz]
    exact hNx _ _ _ ⟨x % N, Nat.mod_lt _ (by omega), N, rfl, by simp [e1], by simp, by rw [← hg, Nat.gcd_comm x N, Nat.gcd_rec N x, Nat.gcd_comm], l2, by omega⟩
theorem ref03_Gcd_ok (a0 b0 : List UInt64) (ha : a0.length ≤ 4000) (hb : b0.length ≤ 4000) : FnV Try.prog 47 [LU a0, LU b0] (LU (toL (Nat.gcd (val a0) (val b0)))) := by
  refine FnV.mk (by simp [LV.dat]) (call_body r_ref03_Gcd k_ref03_Gcd (by simp) ?_)
  have h1 := toL_length_val a0
  have h2 := toL_length_val b0
  simp [c_ref03_Gcd]
  refine CallL_F (ref02_Trim_ok a0 (by omega)) (by simp) ?_
  simp [RU]
  refine CallL_F (ref02_Trim_ok b0 (by omega)) (by simp) ?_
  simp [RU]
  refine loop_nx (fun ρ D G N => ∃ x, D = [] ∧ lk ρ 0 = LU (toL x) ∧ lk ρ 1 = LU (toL N) ∧ Nat.gcd x N = Nat.gcd (val a0) (val b0) ∧ (toL x).length ≤ 4000 ∧ (toL N).length ≤ 4000) (N := val b0) ⟨val a0, by simp; omega⟩ ?_
  rintro N ρ D G ⟨x, rfl, e0, e1, hg, l1, l2⟩ Nx hNx
  by_cases hz : N = 0
  · subst hz
    simp [toL_zero] at e1
    simp at hg
    simp [e0, e1, hg]
  · have hp : toL N ≠ [] := fun e => hz (toL_eq_nil.1 e)
    have hp2 : 0 < (toL N).length := List.length_pos_iff.2 hp
    simp [e0, e1, hp, hp2]
    refine CallL_F (ref02_Div_ok (toL x) (toL N) (by omega) (by omega)) (by simp) ?_
    have l3 : (toL (x % N)).length ≤ (toL N).length := toL_len_lt (by rw [val_toL]; exact Nat.mod_lt _ (by omega))
    simp [RU, val_toL, hz]
    exact hNx _ _ _ ⟨x % N, Nat.mod_lt _ (by omega), N, rfl, by simp [e1], by simp, by rw [← hg, Nat.gcd_comm x N, Nat.gcd_rec N x, Nat.gcd_comm], l2, by omega⟩
end Go.Proofs.Ytlfffpmdofacjaa
