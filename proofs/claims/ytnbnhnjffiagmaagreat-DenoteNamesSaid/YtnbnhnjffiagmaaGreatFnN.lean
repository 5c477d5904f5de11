/- Numbers modulo another one: what the functions come to. -/
import Derived.Test.YtnbnhnjffiagmaaGreatFnL
import Derived.Test.YtnbnhnjffiagmaaGreatSvG3
namespace Go.Proofs.YtnbnhnjffiagmaaGreat
open Go.Sv
set_option linter.unusedSimpArgs false
def c_modular_rest:LC:=(.seq (.ops [.z 4 (.move (.c .nilSl)),.z 5 (.move (.c (.i 0)))]) (.seq (.ops [.m 10 0,.m 11 1,.z 12 (.callV (.c (.fn (.func 144) [] [])) [.t 10,.t 11]),.m 9 12,.z 13 (.extract 0 (.t 9)),.z 14 (.extract 1 (.t 9)),.z 15 (.extract 2 (.t 9)),.m 6 13,.m 7 14,.m 8 15]) (.seq (.ops [.m 16 7,.m 17 8,.m 4 16,.m 5 17]) .ret)))
theorem r_modular_rest:resFn Tryz.prog 145=some ⟨18,c_modular_rest.r,[.tmp 4,.tmp 5]⟩:=by kernel_rfl
theorem k_modular_rest:c_modular_rest.ok=true:=by kernel_rfl
def c_modular_Add:LC:=(.seq (.ops [.z 6 (.move (.c .nilSl)),.z 7 (.move (.c (.i 0)))]) (.seq (.ops [.m 8 0,.m 9 1,.z 10 (.callV (.c (.fn (.func 97) [] [])) [.t 8,.t 9]),.m 11 2,.z 12 (.callV (.c (.fn (.func 145) [] [])) [.t 10,.t 11]),.z 13 (.extract 0 (.t 12)),.z 14 (.extract 1 (.t 12)),.m 6 13,.m 7 14]) .ret))
theorem r_modular_Add:resFn Tryz.prog 107=some ⟨15,c_modular_Add.r,[.tmp 6,.tmp 7]⟩:=by kernel_rfl
theorem k_modular_Add:c_modular_Add.ok=true:=by kernel_rfl
def c_modular_Sub:LC:=(.seq (.ops [.z 6 (.move (.c .nilSl)),.z 7 (.move (.c (.i 0)))]) (.seq (.ops [.m 13 0,.m 14 2,.z 15 (.callV (.c (.fn (.func 145) [] [])) [.t 13,.t 14]),.m 12 15,.z 16 (.extract 0 (.t 12)),.z 17 (.extract 1 (.t 12)),.m 8 16,.m 9 17]) (.seq (.seq (.ops [.m 18 9,.z 19 (.bin .neq true 32 (.t 18) (.c (.i 0)))]) (.cond (.t 19) (.seq (.ops [.m 20 9,.z 6 (.move (.c .nilSl)),.m 7 20]) .ret) .skip)) (.seq (.ops [.m 22 1,.m 23 2,.z 24 (.callV (.c (.fn (.func 145) [] [])) [.t 22,.t 23]),.m 21 24,.z 25 (.extract 0 (.t 21)),.z 26 (.extract 1 (.t 21)),.m 10 25,.m 9 26]) (.seq (.seq (.ops [.m 27 9,.z 28 (.bin .neq true 32 (.t 27) (.c (.i 0)))]) (.cond (.t 28) (.seq (.ops [.m 29 9,.z 6 (.move (.c .nilSl)),.m 7 29]) .ret) .skip)) (.seq (.ops [.m 31 8,.m 32 2,.z 33 (.callV (.c (.fn (.func 97) [] [])) [.t 31,.t 32]),.m 34 10,.z 35 (.callV (.c (.fn (.func 142) [] [])) [.t 33,.t 34]),.m 30 35,.z 36 (.extract 0 (.t 30)),.z 37 (.extract 1 (.t 30)),.m 11 36,.m 9 37]) (.seq (.seq (.ops [.m 38 9,.z 39 (.bin .neq true 32 (.t 38) (.c (.i 0)))]) (.cond (.t 39) (.seq (.ops [.m 40 9,.z 6 (.move (.c .nilSl)),.m 7 40]) .ret) .skip)) (.seq (.ops [.m 41 11,.m 42 2,.z 43 (.callV (.c (.fn (.func 145) [] [])) [.t 41,.t 42]),.z 44 (.extract 0 (.t 43)),.z 45 (.extract 1 (.t 43)),.m 6 44,.m 7 45]) .ret))))))))
theorem r_modular_Sub:resFn Tryz.prog 109=some ⟨46,c_modular_Sub.r,[.tmp 6,.tmp 7]⟩:=by kernel_rfl
theorem k_modular_Sub:c_modular_Sub.ok=true:=by kernel_rfl
def c_modular_Mul:LC:=(.seq (.ops [.z 6 (.move (.c .nilSl)),.z 7 (.move (.c (.i 0)))]) (.seq (.ops [.m 8 0,.m 9 1,.z 10 (.callV (.c (.fn (.func 100) [] [])) [.t 8,.t 9]),.m 11 2,.z 12 (.callV (.c (.fn (.func 145) [] [])) [.t 10,.t 11]),.z 13 (.extract 0 (.t 12)),.z 14 (.extract 1 (.t 12)),.m 6 13,.m 7 14]) .ret))
theorem r_modular_Mul:resFn Tryz.prog 149=some ⟨15,c_modular_Mul.r,[.tmp 6,.tmp 7]⟩:=by kernel_rfl
theorem k_modular_Mul:c_modular_Mul.ok=true:=by kernel_rfl
theorem toL_add_len (a b:List UInt64):(toL (val a+val b)).length≤max a.length b.length+1:=by
 refine toL_length_le ?_
 have h1:=val_bound (a:=a) (n:=max a.length b.length) (by omega)
 have h2:=val_bound (a:=b) (n:=max a.length b.length) (by omega)
 rw[pow64]; omega
theorem toL_mul_len (a b:List UInt64):(toL (val a * val b)).length≤a.length+b.length:=by
 refine toL_length_le ?_
 have h1:=val_lt a
 have h2:=val_lt b
 rw[Nat.mul_add,Nat.pow_add]
 exact Nat.mul_lt_mul'' h1 h2
theorem mR_len (a n:List UInt64) (h:val n≠0):(toL (val a % val n)).length≤n.length:=toL_len_lt (Nat.mod_lt _ (by omega))
theorem modular_rest_ok (a n:List UInt64) (ha:a.length≤10000) (hn:n.length≤10000):FnS Tryz.prog 145 [LU a,LU n] (.tup [.dy 0 0,.i (mE (val n))]) [RU (mR (val n) (val a % val n))]:=by
 refine FnS.rowE (call_body r_modular_rest k_modular_rest (by simp) ?_)
 simp[c_modular_rest]
 refine CallL_S (nat_Div_ok a n ha hn) (by simp) ?_
 by_cases h:val n=0
 ·simp[h,mE,mR]
  exact .inr ⟨1,0,0,rfl,by simp[RU]⟩
 ·simp[h,mE,mR]
  exact .inr ⟨1,0,0,rfl,by simp[RU]⟩
theorem modular_Add_ok (a b n:List UInt64) (ha:a.length≤4000) (hb:b.length≤4000) (hn:n.length≤4000):FnS Tryz.prog 107 [LU a,LU b,LU n] (.tup [.dy 0 0,.i (mE (val n))]) [RU (mR (val n) ((val a+val b) % val n))]:=by
 refine FnS.rowE (call_body r_modular_Add k_modular_Add (by simp) ?_)
 have hl:=toL_add_len a b
 simp[c_modular_Add]
 refine CallL_F (nat_Add_ok a b (by omega) (by omega)) (by simp) ?_
 simp[RU]
 refine CallL_S (modular_rest_ok (toL (val a+val b)) n (by omega) (by omega)) (by simp) ?_
 simp[val_toL]
 exact .inr ⟨0,0,0,rfl,by simp[RU]⟩
theorem modular_Mul_ok (a b n:List UInt64) (ha:a.length≤4000) (hb:b.length≤4000) (hn:n.length≤4000):FnS Tryz.prog 149 [LU a,LU b,LU n] (.tup [.dy 0 0,.i (mE (val n))]) [RU (mR (val n) (val a * val b % val n))]:=by
 refine FnS.rowE (call_body r_modular_Mul k_modular_Mul (by simp) ?_)
 have hl:=toL_mul_len a b
 simp[c_modular_Mul]
 refine CallL_F (nat_Mul_ok a b (by omega) (by omega)) (by simp) ?_
 simp[RU]
 refine CallL_S (modular_rest_ok (toL (val a * val b)) n (by omega) (by omega)) (by simp) ?_
 simp[val_toL]
 exact .inr ⟨0,0,0,rfl,by simp[RU]⟩
theorem modular_Sub_ok (a b n:List UInt64) (ha:a.length≤4000) (hb:b.length≤4000) (hn:n.length≤4000):FnS Tryz.prog 109 [LU a,LU b,LU n] (.tup [.dy 0 0,.i (mE (val n))]) [RU (mR (val n) (subM (val a) (val b) (val n)))]:=by
 refine FnS.rowE (call_body r_modular_Sub k_modular_Sub (by simp) ?_)
 simp[c_modular_Sub]
 refine CallL_F (modular_rest_ok a n (by omega) (by omega)) (by simp) ?_
 by_cases h:val n=0
 ·simp[RU,h,mE,mR,RowAt]
 have l1:=mR_len a n h
 have l2:=mR_len b n h
 simp[RU,mE_p h,mR_p h]
 refine CallL_F (modular_rest_ok b n (by omega) (by omega)) (by simp) ?_
 simp[RU,mE_p h,mR_p h]
 have l3:=toL_add_len (toL (val a % val n)) n
 refine CallL_F (nat_Add_ok (toL (val a % val n)) n (by omega) (by omega)) (by simp) ?_
 have hlt:¬ val a % val n+val n < val b % val n:=by have:=Nat.mod_lt (val b) (show 0 < val n by omega); omega
 simp[RU]
 rw[val_toL]
 rw[val_toL] at l3
 refine CallL_F (nat_Sub_ok (toL (val a % val n+val n)) (toL (val b % val n)) (by omega) (by omega)) (by simp) ?_
 have l4:(toL (val a % val n+val n - val b % val n)).length≤(toL (val a % val n+val n)).length:=toL_len_le (by rw[val_toL]; omega)
 simp[RU,val_toL,hlt]
 refine CallL_S (modular_rest_ok (toL (val a % val n+val n - val b % val n)) n (by omega) (by omega)) (by simp) ?_
 simp[val_toL,mE_p h,mR_p h]
 exact .inr ⟨0,0,0,rfl,by simp[RU,subM]⟩
end Go.Proofs.YtnbnhnjffiagmaaGreat
