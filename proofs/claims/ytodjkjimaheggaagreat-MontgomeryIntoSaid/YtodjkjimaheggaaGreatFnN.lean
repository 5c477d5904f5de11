/- Numbers modulo another one: what the functions come to. -/
import Derived.Test.YtodjkjimaheggaaGreatFnL
import Derived.Test.YtodjkjimaheggaaGreatSvG3
namespace Go.Proofs.YtodjkjimaheggaaGreat
open Go.Sv
set_option linter.unusedSimpArgs false
def c_ref03_rest:LC:=(.seq (.ops [.z 4 (.move (.c .nilSl)),.z 5 (.move (.c (.i 0)))]) (.seq (.ops [.m 10 0,.m 11 1,.z 12 (.callV (.c (.fn (.func 28) [] [])) [.t 10,.t 11]),.m 9 12,.z 13 (.extract 0 (.t 9)),.z 14 (.extract 1 (.t 9)),.z 15 (.extract 2 (.t 9)),.m 6 13,.m 7 14,.m 8 15]) (.seq (.ops [.m 16 7,.m 17 8,.m 4 16,.m 5 17]) .ret)))
theorem r_ref03_rest:resFn Tryz.prog 93=some ⟨18,c_ref03_rest.r,[.tmp 4,.tmp 5]⟩:=by kernel_rfl
theorem k_ref03_rest:c_ref03_rest.ok=true:=by kernel_rfl
def c_ref03_Sub:LC:=(.seq (.ops [.z 6 (.move (.c .nilSl)),.z 7 (.move (.c (.i 0)))]) (.seq (.ops [.m 15 0,.m 16 2,.z 17 (.callV (.c (.fn (.func 93) [] [])) [.t 15,.t 16]),.m 14 17,.z 18 (.extract 0 (.t 14)),.z 19 (.extract 1 (.t 14)),.m 8 18,.m 9 19]) (.seq (.seq (.ops [.m 20 9,.z 21 (.bin .neq true 35 (.t 20) (.c (.i 0)))]) (.cond (.t 21) (.seq (.ops [.m 22 9,.z 6 (.move (.c .nilSl)),.m 7 22]) .ret) .skip)) (.seq (.ops [.m 24 1,.m 25 2,.z 26 (.callV (.c (.fn (.func 93) [] [])) [.t 24,.t 25]),.m 23 26,.z 27 (.extract 0 (.t 23)),.z 28 (.extract 1 (.t 23)),.m 10 27,.m 11 28]) (.seq (.ops [.m 30 8,.m 31 2,.z 32 (.callV (.c (.fn (.func 81) [] [])) [.t 30,.t 31]),.m 33 10,.z 34 (.callV (.c (.fn (.func 83) [] [])) [.t 32,.t 33]),.m 29 34,.z 35 (.extract 0 (.t 29)),.z 36 (.extract 1 (.t 29)),.m 12 35,.m 13 36]) (.seq (.ops [.m 37 12,.m 38 2,.z 39 (.callV (.c (.fn (.func 93) [] [])) [.t 37,.t 38]),.z 40 (.extract 0 (.t 39)),.z 41 (.extract 1 (.t 39)),.m 6 40,.m 7 41]) .ret))))))
theorem r_ref03_Sub:resFn Tryz.prog 152=some ⟨42,c_ref03_Sub.r,[.tmp 6,.tmp 7]⟩:=by kernel_rfl
theorem k_ref03_Sub:c_ref03_Sub.ok=true:=by kernel_rfl
def c_ref03_Mul:LC:=(.seq (.ops [.z 6 (.move (.c .nilSl)),.z 7 (.move (.c (.i 0)))]) (.seq (.ops [.m 8 0,.m 9 1,.z 10 (.callV (.c (.fn (.func 31) [] [])) [.t 8,.t 9]),.m 11 2,.z 12 (.callV (.c (.fn (.func 93) [] [])) [.t 10,.t 11]),.z 13 (.extract 0 (.t 12)),.z 14 (.extract 1 (.t 12)),.m 6 13,.m 7 14]) .ret))
theorem r_ref03_Mul:resFn Tryz.prog 54=some ⟨15,c_ref03_Mul.r,[.tmp 6,.tmp 7]⟩:=by kernel_rfl
theorem k_ref03_Mul:c_ref03_Mul.ok=true:=by kernel_rfl
def c_ref03_Gcd:LC:=(.seq (.ops [.z 4 (.move (.c .nilSl))]) (.seq (.ops [.m 8 0,.z 9 (.callV (.c (.fn (.func 84) [] [])) [.t 8]),.m 10 1,.z 11 (.callV (.c (.fn (.func 84) [] [])) [.t 10]),.m 0 9,.m 1 11]) (.seq (.block 0 (.loop (.seq (.seq (.ops [.m 12 1,.z 13 (.lenSl (.t 12)),.z 14 (.bin .gtr true 3 (.t 13) (.c (.i 0)))]) (.cond (.t 14) .skip (.exit 0))) (.block 1 (.seq (.ops [.m 16 0,.m 17 1,.z 18 (.callV (.c (.fn (.func 28) [] [])) [.t 16,.t 17]),.m 15 18,.z 19 (.extract 0 (.t 15)),.z 20 (.extract 1 (.t 15)),.z 21 (.extract 2 (.t 15)),.m 5 19,.m 6 20,.m 7 21]) (.ops [.m 22 1,.m 23 6,.m 0 22,.m 1 23])))))) (.seq (.ops [.m 24 0,.m 4 24]) .ret))))
theorem r_ref03_Gcd:resFn Tryz.prog 151=some ⟨25,c_ref03_Gcd.r,[.tmp 4]⟩:=by kernel_rfl
theorem k_ref03_Gcd:c_ref03_Gcd.ok=true:=by kernel_rfl
theorem toL_add_len (a b:List UInt64):(toL (val a+val b)).length≤max a.length b.length+1:=by
 refine toL_length_le ?_
 have h1:=val_bound (a:=a) (n:=max a.length b.length) (by omega)
 have h2:=val_bound (a:=b) (n:=max a.length b.length) (by omega)
 rw[pow64]; omega
theorem toL_mul_len (a b:List UInt64):(toL (val a * val b)).length≤a.length+b.length:=by
 refine toL_length_le ?_
 have h1:=val_lt a
 have h2:=val_lt b
 rw[Nat.mul_add,Nat.pow_add]
 exact Nat.mul_lt_mul'' h1 h2
theorem mR_len (a n:List UInt64) (h:val n≠0):(toL (val a % val n)).length≤n.length:=toL_len_lt (Nat.mod_lt _ (by omega))
theorem ref03_rest_ok (a n:List UInt64) (ha:a.length≤10000) (hn:n.length≤10000):FnS Tryz.prog 93 [LU a,LU n] (.tup [.dy 0 0,.i (mE (val n))]) [RU (mR (val n) (val a % val n))]:=by
 refine FnS.rowE (call_body r_ref03_rest k_ref03_rest (by simp) ?_)
 simp[c_ref03_rest]
 refine CallL_S (ref02_Div_ok a n ha hn) (by simp) ?_
 by_cases h:val n=0
 ·simp[h,mE,mR]
  exact .inr ⟨1,0,0,rfl,by simp[RU]⟩
 ·simp[h,mE,mR]
  exact .inr ⟨1,0,0,rfl,by simp[RU]⟩
theorem ref03_Mul_ok (a b n:List UInt64) (ha:a.length≤4000) (hb:b.length≤4000) (hn:n.length≤4000):FnS Tryz.prog 54 [LU a,LU b,LU n] (.tup [.dy 0 0,.i (mE (val n))]) [RU (mR (val n) (val a * val b % val n))]:=by
 refine FnS.rowE (call_body r_ref03_Mul k_ref03_Mul (by simp) ?_)
 have hl:=toL_mul_len a b
 simp[c_ref03_Mul]
 refine CallL_F (ref02_Mul_ok a b (by omega) (by omega)) (by simp) ?_
 simp[RU]
 refine CallL_S (ref03_rest_ok (toL (val a * val b)) n (by omega) (by omega)) (by simp) ?_
 simp[val_toL]
 exact .inr ⟨0,0,0,rfl,by simp[RU]⟩
theorem ref03_Sub_ok (a b n:List UInt64) (ha:a.length≤4000) (hb:b.length≤4000) (hn:n.length≤4000):FnS Tryz.prog 152 [LU a,LU b,LU n] (.tup [.dy 0 0,.i (mE (val n))]) [RU (mR (val n) (subM (val a) (val b) (val n)))]:=by
 refine FnS.rowE (call_body r_ref03_Sub k_ref03_Sub (by simp) ?_)
 simp[c_ref03_Sub]
 refine CallL_F (ref03_rest_ok a n (by omega) (by omega)) (by simp) ?_
 by_cases h:val n=0
 ·simp[RU,h,mE,mR,RowAt]
 have l1:=mR_len a n h
 have l2:=mR_len b n h
 simp[RU,mE_p h,mR_p h]
 refine CallL_F (ref03_rest_ok b n (by omega) (by omega)) (by simp) ?_
 simp[RU,mE_p h,mR_p h]
 have l3:=toL_add_len (toL (val a % val n)) n
 refine CallL_F (ref02_Add_ok (toL (val a % val n)) n (by omega) (by omega)) (by simp) ?_
 have hlt:¬ val a % val n+val n < val b % val n:=by have:=Nat.mod_lt (val b) (show 0 < val n by omega); omega
 simp[RU]
 rw[val_toL]
 rw[val_toL] at l3
 refine CallL_F (ref02_Sub_ok (toL (val a % val n+val n)) (toL (val b % val n)) (by omega) (by omega)) (by simp) ?_
 have l4:(toL (val a % val n+val n - val b % val n)).length≤(toL (val a % val n+val n)).length:=toL_len_le (by rw[val_toL]; omega)
 simp[RU,val_toL,hlt]
 refine CallL_S (ref03_rest_ok (toL (val a % val n+val n - val b % val n)) n (by omega) (by omega)) (by simp) ?_
 simp[val_toL,mE_p h,mR_p h]
 exact .inr ⟨0,0,0,rfl,by simp[RU,subM]⟩
theorem ref03_Gcd_ok (a0 b0:List UInt64) (ha:a0.length≤4000) (hb:b0.length≤4000):FnV Tryz.prog 151 [LU a0,LU b0] (LU (toL (Nat.gcd (val a0) (val b0)))):=by
 refine FnV.mk (by simp[LV.dat]) (call_body r_ref03_Gcd k_ref03_Gcd (by simp) ?_)
 have h1:=toL_length_val a0
 have h2:=toL_length_val b0
 simp[c_ref03_Gcd]
 refine CallL_F (ref02_Trim_ok a0 (by omega)) (by simp) ?_
 simp[RU]
 refine CallL_F (ref02_Trim_ok b0 (by omega)) (by simp) ?_
 simp[RU]
 refine loop_nx (fun ρ D G N=>∃ x,D=[]∧lk ρ 0=LU (toL x)∧lk ρ 1=LU (toL N)∧Nat.gcd x N=Nat.gcd (val a0) (val b0)∧(toL x).length≤4000∧(toL N).length≤4000) (N:=val b0) ⟨val a0,by simp; omega⟩ ?_
 rintro N ρ D G ⟨x,rfl,e0,e1,hg,l1,l2⟩ Nx hNx
 by_cases hz:N=0
 ·subst hz
  simp[toL_zero] at e1
  simp at hg
  simp[e0,e1,hg]
 ·have hp:toL N≠[]:=fun e=>hz (toL_eq_nil.1 e)
  have hp2:0 < (toL N).length:=List.length_pos_iff.2 hp
  simp[e0,e1,hp,hp2]
  refine CallL_F (ref02_Div_ok (toL x) (toL N) (by omega) (by omega)) (by simp) ?_
  have l3:(toL (x % N)).length≤(toL N).length:=toL_len_lt (by rw[val_toL]; exact Nat.mod_lt _ (by omega))
  simp[RU,val_toL,hz]
  exact hNx _ _ _ ⟨x % N,Nat.mod_lt _ (by omega),N,rfl,by simp[e1],by simp,by rw[←hg,Nat.gcd_comm x N,Nat.gcd_rec N x,Nat.gcd_comm],l2,by omega⟩
end Go.Proofs.YtodjkjimaheggaaGreat
