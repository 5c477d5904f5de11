/- Numbers modulo another one: odd ones, the radix, powers. -/
import Derived.Test.YtnbnhnjffiagmaaGreatFnN
namespace Go.Proofs.YtnbnhnjffiagmaaGreat
open Go.Sv
set_option linter.unusedSimpArgs false
def c_modular_odd:LC:=(.seq (.ops [.z 2 (.move (.c (.bool false)))]) (.seq (.ops [.m 3 0,.z 4 (.callV (.c (.fn (.func 51) [] [])) [.t 3,.c (.i 0)]),.m 2 4]) .ret))
theorem r_modular_odd:resFn Tryz.prog 146=some ⟨5,c_modular_odd.r,[.tmp 2]⟩:=by kernel_rfl
theorem k_modular_odd:c_modular_odd.ok=true:=by kernel_rfl
def c_modular_Radix:LC:=(.seq (.ops [.z 4 (.move (.c .nilSl)),.z 5 (.move (.c (.i 0)))]) (.seq (.seq (.ops [.m 6 0,.z 7 (.bin .lss true 3 (.t 6) (.c (.i 0))),.m 8 7,⟨some 9,(some (8,false)),.move (.t 0)⟩,⟨some 10,(some (8,false)),.bin .gtr true 3 (.t 9) (.c (.i 512))⟩,.z 11 (.pick (.t 8) (.c (.bool true)) (.t 10))]) (.cond (.t 11) (.seq (.ops [.z 4 (.move (.c .nilSl)),.z 5 (.move (.c (.i 2)))]) .ret) .skip)) (.seq (.ops [.m 12 0,.z 13 (.mkSl 1 [(.u 0)] (.t 12) (.t 12)),.z 14 (.buildSl 1 1 [(.u 0)] [(0,1,.c (.u 1))]),.z 15 (.appG 1 (.t 13) (.t 14)),.m 16 1,.z 17 (.callV (.c (.fn (.func 145) [] [])) [.t 15,.t 16]),.z 18 (.extract 0 (.t 17)),.z 19 (.extract 1 (.t 17)),.m 4 18,.m 5 19]) .ret)))
theorem r_modular_Radix:resFn Tryz.prog 147=some ⟨20,c_modular_Radix.r,[.tmp 4,.tmp 5]⟩:=by kernel_rfl
theorem k_modular_Radix:c_modular_Radix.ok=true:=by kernel_rfl
def c_modular_Pow:LC:=(.seq (.ops [.z 5 (.box (.t 2)),.z 6 (.move (.c .nilSl)),.z 7 (.move (.c (.i 0)))]) (.seq (.ops [.z 13 (.buildSl 1 1 [(.u 0)] [(0,1,.c (.u 1))]),.l 14 5,.z 15 (.callV (.c (.fn (.func 145) [] [])) [.t 13,.t 14]),.m 12 15,.z 16 (.extract 0 (.t 12)),.z 17 (.extract 1 (.t 12)),.z 8 (.alloc [.nilSl]),⟨none,none,.store 1 (.t 8) (.t 16)⟩,.m 9 17]) (.seq (.seq (.ops [.m 18 9,.z 19 (.bin .neq true 32 (.t 18) (.c (.i 0)))]) (.cond (.t 19) (.seq (.ops [.m 20 9,.z 6 (.move (.c .nilSl)),.m 7 20]) .ret) .skip)) (.seq (.ops [.z 21 (.mkFunc 150 [] [.t 8,.t 5]),.m 10 21]) (.seq (.seq (.ops [.m 22 1,.z 23 (.callV (.c (.fn (.func 52) [] [])) [.t 22]),.z 24 (.bin .sub true 3 (.t 23) (.c (.i 1))),.m 11 24]) (.block 0 (.loop (.seq (.seq (.ops [.m 25 11,.z 26 (.bin .geq true 3 (.t 25) (.c (.i 0)))]) (.cond (.t 26) .skip (.exit 0))) (.seq (.block 1 (.seq (.ops [.m 29 10,.l 30 8,.z 31 (.callV (.t 29) [.t 30])]) (.seq (.ops [.m 32 1,.m 33 11,.z 34 (.callV (.c (.fn (.func 51) [] [])) [.t 32,.t 33])]) (.cond (.t 34) (.ops [.m 35 10,.m 36 0,.z 37 (.callV (.t 35) [.t 36])]) .skip)))) (.ops [.m 27 11,.z 28 (.bin .sub true 3 (.t 27) (.c (.i 1))),.m 11 28])))))) (.seq (.ops [.l 38 8,.m 6 38,.z 7 (.move (.c (.i 0)))]) .ret))))))
theorem r_modular_Pow:resFn Tryz.prog 113=some ⟨39,c_modular_Pow.r,[.tmp 6,.tmp 7]⟩:=by kernel_rfl
theorem k_modular_Pow:c_modular_Pow.ok=true:=by kernel_rfl
def c_modular_Pow_1:LC:=(.ops [.l 5 1,.m 6 0,.l 7 2,.z 8 (.callV (.c (.fn (.func 149) [] [])) [.t 5,.t 6,.t 7]),.m 4 8,.z 9 (.extract 0 (.t 4)),.z 10 (.extract 1 (.t 4)),⟨none,none,.store 1 (.t 1) (.t 9)⟩])
theorem r_modular_Pow_1:resFn Tryz.prog 150=some ⟨11,c_modular_Pow_1.r,[]⟩:=by kernel_rfl
theorem k_modular_Pow_1:c_modular_Pow_1.ok=true:=by kernel_rfl
theorem modular_odd_ok (n:List UInt64):FnS Tryz.prog 146 [LU n] (.bool (oddL n)) []:=by
 refine FnS.val rfl (call_body r_modular_odd k_modular_odd (by simp) ?_)
 simp[c_modular_odd]
 refine CallL_F (nat_Bit_ok n 0 (by decide)) (by simp) ?_
 rw[oddL_val]
 simp
theorem modular_Radix_ok (l:Int) (n:List UInt64) (hn:n.length≤4000):FnS Tryz.prog 147 [.i l,LU n] (.tup [.dy 0 0,.i (rdE l (val n))]) [RU (rdR l (val n))]:=by
 refine FnS.rowE (call_body r_modular_Radix k_modular_Radix (by simp) ?_)
 by_cases h1:l < 0
 ·simp[c_modular_Radix,h1,rdE,rdR,RowAt]
 by_cases h2:512 < l
 ·simp[c_modular_Radix,h1,h2,rdE,rdR,RowAt]
 obtain⟨k,rfl⟩:=Int.eq_ofNat_of_zero_le (show 0≤l by omega)
 have h4:¬ ((k:Int) < 0):=by omega
 simp[c_modular_Radix,h2,h4,repU]
 refine⟨by omega,by omega,?_⟩
 refine CallL_S (modular_rest_ok (List.replicate k 0++[1]) n (by simp; omega) (by omega)) (bors2 (RowAt.bor (l:=List.replicate k 0++[1]) (.inr ⟨0,1,1,rfl,by simp⟩)) (by simp)) ?_
 have h3:¬ (512 < (k:Int)):=h2
 simp[rdE,rdR,h3,h4,val_radix]
 exact .inr ⟨2,0,0,rfl,by simp[RU]⟩
theorem modular_times_ok (b n o:List UInt64) {G:LHeap} {po pn so sn:Nat} {K:LV→LHeap→Prop} (hb:b.length≤2000) (ho:o.length≤2000) (hnl:n.length≤2000) (hn0:val n≠0)
  (ho':G[po]?=some (.cells [LU o] so)) (hn:G[pn]?=some (.cells [LU n] sn)) (k:K (.tup []) (G.set po (.cells [LU (toL (val o * val b % val n))] (so+1)))) :
  CallL Tryz.prog (.fn 150) [LU b,.ptr po 0,.ptr pn 0] G K:=by
 refine call_body r_modular_Pow_1 k_modular_Pow_1 (by simp) ?_
 simp only[LU] at ho' hn k
 simp[c_modular_Pow_1,ho',hn]
 refine CallL_F (modular_Mul_ok o b n (by omega) (by omega) (by omega)) (by simp) ?_
 simp[RU,mR_p hn0,ho']
 exact k
theorem modular_Pow_ok (a x n:List UInt64) (ha:a.length≤2000) (hx:x.length≤2000) (hn:n.length≤2000):FnV Tryz.prog 113 [LU a,LU x,LU n] (.tup [LU (mR (val n) (val a ^ val x % val n)),.i (mE (val n))]):=by
 refine FnV.mk (by simp[LV.dat]) (call_body r_modular_Pow k_modular_Pow (by simp) ?_)
 simp[c_modular_Pow]
 refine CallL_F (modular_rest_ok [1] n (by simp) (by omega)) (bors2 (RowAt.bor (l:=[1]) (.inr ⟨_,0,0,rfl,by simp⟩)) (by simp)) ?_
 by_cases h:val n=0
 ·simp[RU,h,mE,mR]
 have hm0:=fun y=>toL_len_lt (b:=n) (Nat.mod_lt y (show 0 < val n by omega))
 simp[RU,mE_p h,mR_p h,val_one]
 refine CallL_F (nat_Bits_ok x (by omega)) (by simp) ?_
 have hbl:=blen_le (val_lt x)
 simp
 refine⟨by omega,?_⟩
 refine loop_nx (fun ρ D G N=>∃ st,D=[]∧N≤64 * x.length∧lk ρ 0=LU a∧lk ρ 1=LU x∧lk ρ 8=.ptr 2 0∧lk ρ 10=.fn (.func 150) [] [.ptr 2 0,.ptr 0 0]∧lk ρ 11=.i ((N:Int) - 1)∧G[0]?=some (.cells [LU n] 0)∧G[2]?=some (.cells [LU (toL (val a ^ (val x / 2 ^ N) % val n))] st)) (N:=blen (val x)) ⟨1,by simp,hbl,by simp,by simp,by simp,by simp,by simp,by simp,by simp[←pow_first]⟩ ?_
 rintro N ρ D G ⟨st,rfl,hN,e0,e1,e8,e10,e11,g0,g2⟩ Nx hNx
 cases N with
 | zero =>
  simp at g2 e11
  simp[e8,e11,g2]
 | succ N =>
  have e:((N+1:Nat):Int) - 1=N:=by omega
  rw[e] at e11
  obtain⟨r,hr⟩:∃ r,val a ^ (val x / 2 ^ (N+1)) % val n=r:=⟨_,rfl⟩
  have hrl:(toL r).length≤n.length:=by rw[←hr]; exact hm0 _
  rw[hr] at g2
  have g2':=g2
  simp only[LU] at g2'
  simp[e10,e11,e8,g2']
  refine modular_times_ok (toL r) n (toL r) (by omega) (by omega) (by omega) h g2 g0 ?_
  rw[val_toL]
  have k2:=gset g2 (.cells [LU (toL (r * r % val n))] (st+1))
  have k0:(G.set 2 (.cells [LU (toL (r * r % val n))] (st+1)))[0]?=some (.cells [LU n] 0):=by rw[gset_ne (by decide)]; exact g0
  simp[e1,e11]
  refine CallL_F (nat_Bit_ok x N (by omega)) (by simp) ?_
  cases htb:(val x).testBit N
  ·have hq:=pow_sq hr.symm htb
   rw[hq] at k2 k0
   simp[htb,e11,hq]
   refine⟨by omega,hNx _ _ _ ⟨N,by omega,st+1,rfl,by omega,by simp[e0],by simp[e1],by simp[e8],by simp[e10],by simp,k0,k2⟩⟩
  ·have hq:=pow_sqm hr.symm htb
   simp[htb,e10,e0]
   refine modular_times_ok a n (toL (r * r % val n)) (by omega) (by have:=hm0 (r * r); omega) (by omega) h k2 k0 ?_
   rw[val_toL,hq]
   simp[e11]
   refine⟨by omega,hNx _ _ _ ⟨N,by omega,st+2,rfl,by omega,by simp[e0],by simp[e1],by simp[e8],by simp[e10],by simp,by rw[gset_ne (by decide)]; exact g0,?_⟩⟩
   have:=(List.getElem?_eq_some_iff.1 g2).1
   simp[this]
end Go.Proofs.YtnbnhnjffiagmaaGreat
