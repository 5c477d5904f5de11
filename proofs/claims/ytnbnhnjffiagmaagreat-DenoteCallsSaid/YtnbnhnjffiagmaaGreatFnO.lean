/- Numbers modulo another one: odd ones, the radix, powers. -/
import Derived.Test.YtnbnhnjffiagmaaGreatFnN
namespace Go.Proofs.YtnbnhnjffiagmaaGreat
open Go.Sv
set_option linter.unusedSimpArgs false
def c_modular_odd:LC:=(.seq (.ops [.z 2 (.move (.c (.bool false)))]) (.seq (.ops [.m 3 0,.z 4 (.callV (.c (.fn (.func 51) [] [])) [.t 3,.c (.i 0)]),.m 2 4]) .ret))
theorem r_modular_odd:resFn Tryz.prog 146=some ⟨5,c_modular_odd.r,[.tmp 2]⟩:=by kernel_rfl
theorem k_modular_odd:c_modular_odd.ok=true:=by kernel_rfl
def c_modular_Radix:LC:=(.seq (.ops [.z 4 (.move (.c .nilSl)),.z 5 (.move (.c (.i 0)))]) (.seq (.seq (.ops [.m 6 0,.z 7 (.bin .lss true 3 (.t 6) (.c (.i 0))),.m 8 7,⟨some 9,(some (8,false)),.move (.t 0)⟩,⟨some 10,(some (8,false)),.bin .gtr true 3 (.t 9) (.c (.i 512))⟩,.z 11 (.pick (.t 8) (.c (.bool true)) (.t 10))]) (.cond (.t 11) (.seq (.ops [.z 4 (.move (.c .nilSl)),.z 5 (.move (.c (.i 2)))]) .ret) .skip)) (.seq (.ops [.m 12 0,.z 13 (.mkSl 1 [(.u 0)] (.t 12) (.t 12)),.z 14 (.buildSl 1 1 [(.u 0)] [(0,1,.c (.u 1))]),.z 15 (.appG 1 (.t 13) (.t 14)),.m 16 1,.z 17 (.callV (.c (.fn (.func 145) [] [])) [.t 15,.t 16]),.z 18 (.extract 0 (.t 17)),.z 19 (.extract 1 (.t 17)),.m 4 18,.m 5 19]) .ret)))
theorem r_modular_Radix:resFn Tryz.prog 147=some ⟨20,c_modular_Radix.r,[.tmp 4,.tmp 5]⟩:=by kernel_rfl
theorem k_modular_Radix:c_modular_Radix.ok=true:=by kernel_rfl
def c_ref03_odd:LC:=(.seq (.ops [.z 2 (.move (.c (.bool false)))]) (.seq (.ops [.m 3 0,.z 4 (.lenSl (.t 3)),.z 5 (.bin .gtr true 3 (.t 4) (.c (.i 0))),.m 6 5,⟨some 7,(some (6,true)),.move (.t 0)⟩,⟨some 8,(some (6,true)),.ixAddr 1 (.t 7) (.c (.i 0))⟩,⟨some 9,(some (6,true)),.load1 (.t 8)⟩,⟨some 10,(some (6,true)),.bin .rem true 28 (.t 9) (.c (.u 2))⟩,⟨some 11,(some (6,true)),.bin .eql true 28 (.t 10) (.c (.u 1))⟩,.z 12 (.pick (.t 6) (.t 11) (.c (.bool false))),.m 2 12]) .ret))
theorem r_ref03_odd:resFn Tryz.prog 161=some ⟨13,c_ref03_odd.r,[.tmp 2]⟩:=by kernel_rfl
theorem k_ref03_odd:c_ref03_odd.ok=true:=by kernel_rfl
def c_ref03_power:LC:=(.seq (.ops [.z 2 (.move (.c .nilSl))]) (.seq (.ops [.m 4 0,.z 5 (.bin .add true 3 (.t 4) (.c (.i 1))),.z 6 (.mkSl 1 [(.u 0)] (.t 5) (.t 5)),.m 3 6]) (.seq (.ops [.m 7 3,.m 8 0,.z 9 (.ixAddr 1 (.t 7) (.t 8)),⟨none,none,.store 1 (.t 9) (.c (.u 1))⟩]) (.seq (.ops [.m 10 3,.m 2 10]) .ret))))
theorem r_ref03_power:resFn Tryz.prog 174=some ⟨11,c_ref03_power.r,[.tmp 2]⟩:=by kernel_rfl
theorem k_ref03_power:c_ref03_power.ok=true:=by kernel_rfl
def c_ref03_Radix:LC:=(.seq (.ops [.z 4 (.move (.c .nilSl)),.z 5 (.move (.c (.i 0)))]) (.seq (.seq (.ops [.m 6 0,.z 7 (.bin .lss true 3 (.t 6) (.c (.i 0))),.m 8 7,⟨some 9,(some (8,false)),.move (.t 0)⟩,⟨some 10,(some (8,false)),.bin .gtr true 3 (.t 9) (.c (.i 512))⟩,.z 11 (.pick (.t 8) (.c (.bool true)) (.t 10))]) (.cond (.t 11) (.seq (.ops [.z 4 (.move (.c .nilSl)),.z 5 (.move (.c (.i 2)))]) .ret) .skip)) (.seq (.ops [.m 12 0,.z 13 (.callV (.c (.fn (.func 174) [] [])) [.t 12]),.m 14 1,.z 15 (.callV (.c (.fn (.func 159) [] [])) [.t 13,.t 14]),.z 16 (.extract 0 (.t 15)),.z 17 (.extract 1 (.t 15)),.m 4 16,.m 5 17]) .ret)))
theorem r_ref03_Radix:resFn Tryz.prog 160=some ⟨18,c_ref03_Radix.r,[.tmp 4,.tmp 5]⟩:=by kernel_rfl
theorem k_ref03_Radix:c_ref03_Radix.ok=true:=by kernel_rfl
def c_ref03_Pow:LC:=(.seq (.ops [.z 6 (.move (.c .nilSl)),.z 7 (.move (.c (.i 0)))]) (.seq (.ops [.z 12 (.buildSl 1 1 [(.u 0)] [(0,1,.c (.u 1))]),.m 13 2,.z 14 (.callV (.c (.fn (.func 159) [] [])) [.t 12,.t 13]),.m 11 14,.z 15 (.extract 0 (.t 11)),.z 16 (.extract 1 (.t 11)),.m 8 15,.m 9 16]) (.seq (.seq (.ops [.m 17 9,.z 18 (.bin .neq true 32 (.t 17) (.c (.i 0)))]) (.cond (.t 18) (.seq (.ops [.m 19 9,.z 6 (.move (.c .nilSl)),.m 7 19]) .ret) .skip)) (.seq (.seq (.ops [.m 20 1,.z 21 (.callV (.c (.fn (.func 158) [] [])) [.t 20]),.z 22 (.bin .sub true 3 (.t 21) (.c (.i 1))),.m 10 22]) (.block 0 (.loop (.seq (.seq (.ops [.m 23 10,.z 24 (.bin .geq true 3 (.t 23) (.c (.i 0)))]) (.cond (.t 24) .skip (.exit 0))) (.seq (.block 1 (.seq (.ops [.m 28 8,.m 29 8,.m 30 2,.z 31 (.callV (.c (.fn (.func 163) [] [])) [.t 28,.t 29,.t 30]),.m 27 31,.z 32 (.extract 0 (.t 27)),.z 33 (.extract 1 (.t 27)),.m 8 32]) (.seq (.ops [.m 34 1,.m 35 10,.z 36 (.callV (.c (.fn (.func 58) [] [])) [.t 34,.t 35])]) (.cond (.t 36) (.ops [.m 38 8,.m 39 0,.m 40 2,.z 41 (.callV (.c (.fn (.func 163) [] [])) [.t 38,.t 39,.t 40]),.m 37 41,.z 42 (.extract 0 (.t 37)),.z 43 (.extract 1 (.t 37)),.m 8 42]) .skip)))) (.ops [.m 25 10,.z 26 (.bin .sub true 3 (.t 25) (.c (.i 1))),.m 10 26])))))) (.seq (.ops [.m 44 8,.m 6 44,.z 7 (.move (.c (.i 0)))]) .ret)))))
theorem r_ref03_Pow:resFn Tryz.prog 139=some ⟨45,c_ref03_Pow.r,[.tmp 6,.tmp 7]⟩:=by kernel_rfl
theorem k_ref03_Pow:c_ref03_Pow.ok=true:=by kernel_rfl
def c_modular_Pow:LC:=(.seq (.ops [.z 5 (.box (.t 2)),.z 6 (.move (.c .nilSl)),.z 7 (.move (.c (.i 0)))]) (.seq (.ops [.z 13 (.buildSl 1 1 [(.u 0)] [(0,1,.c (.u 1))]),.l 14 5,.z 15 (.callV (.c (.fn (.func 145) [] [])) [.t 13,.t 14]),.m 12 15,.z 16 (.extract 0 (.t 12)),.z 17 (.extract 1 (.t 12)),.z 8 (.alloc [.nilSl]),⟨none,none,.store 1 (.t 8) (.t 16)⟩,.m 9 17]) (.seq (.seq (.ops [.m 18 9,.z 19 (.bin .neq true 32 (.t 18) (.c (.i 0)))]) (.cond (.t 19) (.seq (.ops [.m 20 9,.z 6 (.move (.c .nilSl)),.m 7 20]) .ret) .skip)) (.seq (.ops [.z 21 (.mkFunc 150 [] [.t 8,.t 5]),.m 10 21]) (.seq (.seq (.ops [.m 22 1,.z 23 (.callV (.c (.fn (.func 52) [] [])) [.t 22]),.z 24 (.bin .sub true 3 (.t 23) (.c (.i 1))),.m 11 24]) (.block 0 (.loop (.seq (.seq (.ops [.m 25 11,.z 26 (.bin .geq true 3 (.t 25) (.c (.i 0)))]) (.cond (.t 26) .skip (.exit 0))) (.seq (.block 1 (.seq (.ops [.m 29 10,.l 30 8,.z 31 (.callV (.t 29) [.t 30])]) (.seq (.ops [.m 32 1,.m 33 11,.z 34 (.callV (.c (.fn (.func 51) [] [])) [.t 32,.t 33])]) (.cond (.t 34) (.ops [.m 35 10,.m 36 0,.z 37 (.callV (.t 35) [.t 36])]) .skip)))) (.ops [.m 27 11,.z 28 (.bin .sub true 3 (.t 27) (.c (.i 1))),.m 11 28])))))) (.seq (.ops [.l 38 8,.m 6 38,.z 7 (.move (.c (.i 0)))]) .ret))))))
theorem r_modular_Pow:resFn Tryz.prog 113=some ⟨39,c_modular_Pow.r,[.tmp 6,.tmp 7]⟩:=by kernel_rfl
theorem k_modular_Pow:c_modular_Pow.ok=true:=by kernel_rfl
def c_modular_Pow_1:LC:=(.ops [.l 5 1,.m 6 0,.l 7 2,.z 8 (.callV (.c (.fn (.func 149) [] [])) [.t 5,.t 6,.t 7]),.m 4 8,.z 9 (.extract 0 (.t 4)),.z 10 (.extract 1 (.t 4)),⟨none,none,.store 1 (.t 1) (.t 9)⟩])
theorem r_modular_Pow_1:resFn Tryz.prog 150=some ⟨11,c_modular_Pow_1.r,[]⟩:=by kernel_rfl
theorem k_modular_Pow_1:c_modular_Pow_1.ok=true:=by kernel_rfl
theorem modular_odd_ok (n:List UInt64):FnS Tryz.prog 146 [LU n] (.bool (oddL n)) []:=by
 refine FnS.val rfl (call_body r_modular_odd k_modular_odd (by simp) ?_)
 simp[c_modular_odd]
 refine CallL_F (nat_Bit_ok n 0 (by decide)) (by simp) ?_
 rw[oddL_val]
 simp
theorem ref03_odd_ok (n:List UInt64):FnS Tryz.prog 161 [LU n] (.bool (oddL n)) []:=by
 refine FnS.val rfl (call_body r_ref03_odd k_ref03_odd (by simp) ?_)
 cases n with
 | nil=>simp[c_ref03_odd,oddL]
 | cons x l =>
  have h:(0:Int) < (l.length:Int)+1:=by omega
  simp[c_ref03_odd,h,oddL,modU_eq]
theorem modular_Radix_ok (l:Int) (n:List UInt64) (hn:n.length≤4000):FnS Tryz.prog 147 [.i l,LU n] (.tup [.dy 0 0,.i (rdE l (val n))]) [RU (rdR l (val n))]:=by
 refine FnS.rowE (call_body r_modular_Radix k_modular_Radix (by simp) ?_)
 by_cases h1:l < 0
 ·simp[c_modular_Radix,h1,rdE,rdR,RowAt]
 by_cases h2:512 < l
 ·simp[c_modular_Radix,h1,h2,rdE,rdR,RowAt]
 obtain⟨k,rfl⟩:=Int.eq_ofNat_of_zero_le (show 0≤l by omega)
 have h4:¬ ((k:Int) < 0):=by omega
 simp[c_modular_Radix,h2,h4,repU]
 refine⟨by omega,by omega,?_⟩
 refine CallL_S (modular_rest_ok (List.replicate k 0++[1]) n (by simp; omega) (by omega)) (bors2 (RowAt.bor (l:=List.replicate k 0++[1]) (.inr ⟨0,1,1,rfl,by simp⟩)) (by simp)) ?_
 have h3:¬ (512 < (k:Int)):=h2
 simp[rdE,rdR,h3,h4,val_radix]
 exact .inr ⟨2,0,0,rfl,by simp[RU]⟩
theorem ref03_power_ok (k:Nat) (hk:k≤512):FnS Tryz.prog 174 [.i k] (.dy 0 0) [RU (List.replicate k 0++[1])]:=by
 refine FnS.row (call_body r_ref03_power k_ref03_power (by simp) ?_)
 have hto:((k:Int)+1).toNat=k+1:=by omega
 have hlay:=layU (List.replicate (k+1) 0) k 1 (by simp)
 have e:(List.replicate (k+1) (0:UInt64)).set k 1=List.replicate k 0++[1]:=by
  rw[List.replicate_succ']
  simp[List.set_append]
 rw[e] at hlay
 have hr:repL [LV.u 0] (k+1)=(List.replicate (k+1) (0:UInt64)).map .u:=repU _
 simp only[List.map_replicate] at hlay hr
 simp[c_ref03_power,hto,hr,hlay]
 refine⟨by omega,by omega,by omega,by omega,?_⟩
 exact .inr ⟨0,0,1,rfl,by simp⟩
theorem ref03_Radix_ok (l:Int) (n:List UInt64) (hn:n.length≤4000):FnS Tryz.prog 160 [.i l,LU n] (.tup [.dy 0 0,.i (rdE l (val n))]) [RU (rdR l (val n))]:=by
 refine FnS.rowE (call_body r_ref03_Radix k_ref03_Radix (by simp) ?_)
 by_cases h1:l < 0
 ·simp[c_ref03_Radix,h1,rdE,rdR,RowAt]
 by_cases h2:512 < l
 ·simp[c_ref03_Radix,h1,h2,rdE,rdR,RowAt]
 obtain⟨k,rfl⟩:=Int.eq_ofNat_of_zero_le (show 0≤l by omega)
 have h4:¬ ((k:Int) < 0):=by omega
 simp[c_ref03_Radix,h2,h4]
 refine CallL_F (ref03_power_ok k (by omega)) (by simp) ?_
 simp[RU]
 refine CallL_S (ref03_rest_ok (List.replicate k 0++[1]) n (by simp; omega) (by omega)) (by simp) ?_
 have h3:¬ (512 < (k:Int)):=h2
 simp[rdE,rdR,h3,h4,val_radix]
 exact .inr ⟨0,0,0,rfl,by simp[RU]⟩
theorem ref03_Pow_ok (a x n:List UInt64) (ha:a.length≤2000) (hx:x.length≤2000) (hn:n.length≤2000):FnV Tryz.prog 139 [LU a,LU x,LU n] (.tup [LU (mR (val n) (val a ^ val x % val n)),.i (mE (val n))]):=by
 refine FnV.mk (by simp[LV.dat]) (call_body r_ref03_Pow k_ref03_Pow (by simp) ?_)
 simp[c_ref03_Pow]
 refine CallL_F (ref03_rest_ok [1] n (by simp) (by omega)) (bors2 (RowAt.bor (l:=[1]) (.inr ⟨_,0,0,rfl,by simp⟩)) (by simp)) ?_
 by_cases h:val n=0
 ·simp[RU,h,mE,mR]
 have hm0:=fun y=>toL_len_lt (b:=n) (Nat.mod_lt y (show 0 < val n by omega))
 simp[RU,mE_p h,mR_p h,val_one]
 refine CallL_F (ref02_Bits_ok x (by omega)) (by simp) ?_
 have hbl:=blen_le (val_lt x)
 simp
 refine⟨by omega,?_⟩
 refine loop_nx (fun ρ D G N=>D=[]∧N≤64 * x.length∧lk ρ 0=LU a∧lk ρ 1=LU x∧lk ρ 2=LU n∧lk ρ 8=LU (toL (val a ^ (val x / 2 ^ N) % val n))∧lk ρ 10=.i ((N:Int) - 1)) (N:=blen (val x)) ⟨by simp,hbl,by simp,by simp,by simp,by simp[←pow_first],by simp⟩ ?_
 rintro N ρ D G ⟨rfl,hN,e0,e1,e2,e8,e10⟩ Nx hNx
 cases N with
 | zero =>
  simp at e8 e10
  simp[e8,e10]
 | succ N =>
  have e:((N+1:Nat):Int) - 1=N:=by omega
  rw[e] at e10
  obtain⟨r,hr⟩:∃ r,val a ^ (val x / 2 ^ (N+1)) % val n=r:=⟨_,rfl⟩
  have hrl:(toL r).length≤n.length:=by rw[←hr]; exact hm0 _
  rw[hr] at e8
  simp[e10,e8,e2]
  refine CallL_F (ref03_Mul_ok (toL r) (toL r) n (by omega) (by omega) (by omega)) (by simp) ?_
  simp[RU,val_toL,mE_p h,mR_p h,e1,e10]
  refine CallL_F (ref02_Bit_ok x N (by omega)) (by simp) ?_
  cases htb:(val x).testBit N
  ·have hq:=pow_sq hr.symm htb
   simp[htb,e10]
   refine⟨by omega,hNx _ _ _ ⟨N,by omega,rfl,by omega,by simp[e0],by simp[e1],by simp[e2],by simp[hq],by simp⟩⟩
  ·have hq:=pow_sqm hr.symm htb
   have hq2:=hq
   simp at hq2
   simp[htb,e0,e2]
   refine CallL_F (ref03_Mul_ok (toL (r * r % val n)) a n (by have:=hm0 (r * r); omega) (by omega) (by omega)) (by simp) ?_
   simp[RU,val_toL,mE_p h,mR_p h,e10]
   refine⟨by omega,hNx _ _ _ ⟨N,by omega,rfl,by omega,by simp[e0],by simp[e1],by simp[e2],by simp[hq2],by simp⟩⟩
theorem modular_times_ok (b n o:List UInt64) {G:LHeap} {po pn so sn:Nat} {K:LV→LHeap→Prop} (hb:b.length≤2000) (ho:o.length≤2000) (hnl:n.length≤2000) (hn0:val n≠0)
  (ho':G[po]?=some (.cells [LU o] so)) (hn:G[pn]?=some (.cells [LU n] sn)) (k:K (.tup []) (G.set po (.cells [LU (toL (val o * val b % val n))] (so+1)))) :
  CallL Tryz.prog (.fn 150) [LU b,.ptr po 0,.ptr pn 0] G K:=by
 refine call_body r_modular_Pow_1 k_modular_Pow_1 (by simp) ?_
 simp only[LU] at ho' hn k
 simp[c_modular_Pow_1,ho',hn]
 refine CallL_F (modular_Mul_ok o b n (by omega) (by omega) (by omega)) (by simp) ?_
 simp[RU,mR_p hn0,ho']
 exact k
theorem modular_Pow_ok (a x n:List UInt64) (ha:a.length≤2000) (hx:x.length≤2000) (hn:n.length≤2000):FnV Tryz.prog 113 [LU a,LU x,LU n] (.tup [LU (mR (val n) (val a ^ val x % val n)),.i (mE (val n))]):=by
 refine FnV.mk (by simp[LV.dat]) (call_body r_modular_Pow k_modular_Pow (by simp) ?_)
 simp[c_modular_Pow]
 refine CallL_F (modular_rest_ok [1] n (by simp) (by omega)) (bors2 (RowAt.bor (l:=[1]) (.inr ⟨_,0,0,rfl,by simp⟩)) (by simp)) ?_
 by_cases h:val n=0
 ·simp[RU,h,mE,mR]
 have hm0:=fun y=>toL_len_lt (b:=n) (Nat.mod_lt y (show 0 < val n by omega))
 simp[RU,mE_p h,mR_p h,val_one]
 refine CallL_F (nat_Bits_ok x (by omega)) (by simp) ?_
 have hbl:=blen_le (val_lt x)
 simp
 refine⟨by omega,?_⟩
 refine loop_nx (fun ρ D G N=>∃ st,D=[]∧N≤64 * x.length∧lk ρ 0=LU a∧lk ρ 1=LU x∧lk ρ 8=.ptr 2 0∧lk ρ 10=.fn (.func 150) [] [.ptr 2 0,.ptr 0 0]∧lk ρ 11=.i ((N:Int) - 1)∧G[0]?=some (.cells [LU n] 0)∧G[2]?=some (.cells [LU (toL (val a ^ (val x / 2 ^ N) % val n))] st)) (N:=blen (val x)) ⟨1,by simp,hbl,by simp,by simp,by simp,by simp,by simp,by simp,by simp[←pow_first]⟩ ?_
 rintro N ρ D G ⟨st,rfl,hN,e0,e1,e8,e10,e11,g0,g2⟩ Nx hNx
 cases N with
 | zero =>
  simp at g2 e11
  simp[e8,e11,g2]
 | succ N =>
  have e:((N+1:Nat):Int) - 1=N:=by omega
  rw[e] at e11
  obtain⟨r,hr⟩:∃ r,val a ^ (val x / 2 ^ (N+1)) % val n=r:=⟨_,rfl⟩
  have hrl:(toL r).length≤n.length:=by rw[←hr]; exact hm0 _
  rw[hr] at g2
  have g2':=g2
  simp only[LU] at g2'
  simp[e10,e11,e8,g2']
  refine modular_times_ok (toL r) n (toL r) (by omega) (by omega) (by omega) h g2 g0 ?_
  rw[val_toL]
  have k2:=gset g2 (.cells [LU (toL (r * r % val n))] (st+1))
  have k0:(G.set 2 (.cells [LU (toL (r * r % val n))] (st+1)))[0]?=some (.cells [LU n] 0):=by rw[gset_ne (by decide)]; exact g0
  simp[e1,e11]
  refine CallL_F (nat_Bit_ok x N (by omega)) (by simp) ?_
  cases htb:(val x).testBit N
  ·have hq:=pow_sq hr.symm htb
   rw[hq] at k2 k0
   simp[htb,e11,hq]
   refine⟨by omega,hNx _ _ _ ⟨N,by omega,st+1,rfl,by omega,by simp[e0],by simp[e1],by simp[e8],by simp[e10],by simp,k0,k2⟩⟩
  ·have hq:=pow_sqm hr.symm htb
   simp[htb,e10,e0]
   refine modular_times_ok a n (toL (r * r % val n)) (by omega) (by have:=hm0 (r * r); omega) (by omega) h k2 k0 ?_
   rw[val_toL,hq]
   simp[e11]
   refine⟨by omega,hNx _ _ _ ⟨N,by omega,st+2,rfl,by omega,by simp[e0],by simp[e1],by simp[e8],by simp[e10],by simp,by rw[gset_ne (by decide)]; exact g0,?_⟩⟩
   have:=(List.getElem?_eq_some_iff.1 g2).1
   simp[this]
end Go.Proofs.YtnbnhnjffiagmaaGreat
