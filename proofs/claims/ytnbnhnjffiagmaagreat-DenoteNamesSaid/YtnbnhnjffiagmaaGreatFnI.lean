/- Naturals of the program: products, bits. -/
import Derived.Test.YtnbnhnjffiagmaaGreatFnH
namespace Go.Proofs.YtnbnhnjffiagmaaGreat
open Go.Sv
set_option linter.unusedSimpArgs false
def c_nat_Mul:LC:=(.seq (.ops [.z 4 (.move (.c .nilSl))]) (.seq (.ops [.m 16 0,.z 17 (.lenSl (.t 16)),.m 18 1,.z 19 (.lenSl (.t 18)),.z 20 (.bin .add false 3 (.t 17) (.t 19)),.z 21 (.mkSl 1 [(.u 0)] (.t 20) (.t 20)),.m 5 21]) (.seq (.seq (.ops [.m 22 0,.z 23 (.lenSl (.t 22)),.z 24 (.move (.c (.i 0)))]) (.block 0 (.loop (.seq (.ops [.z 25 (.bin .lss false 3 (.t 24) (.t 23))]) (.seq (.cond (.t 25) .skip (.exit 0)) (.seq (.block 1 (.seq (.ops [.m 26 24,.z 27 (.ixAddr 1 (.t 22) (.t 24)),.l 28 27,.m 6 26,.m 7 28]) (.seq (.ops [.z 8 (.move (.c (.u 0)))]) (.seq (.seq (.ops [.m 29 1,.z 30 (.lenSl (.t 29)),.z 31 (.move (.c (.i 0)))]) (.block 2 (.loop (.seq (.ops [.z 32 (.bin .lss false 3 (.t 31) (.t 30))]) (.seq (.cond (.t 32) .skip (.exit 2)) (.seq (.block 3 (.seq (.ops [.m 33 31,.z 34 (.ixAddr 1 (.t 29) (.t 31)),.l 35 34,.m 9 33,.m 10 35]) (.seq (.ops [.m 37 7,.m 38 10,.z 39 (.callV (.c (.fn (.func 143) [] [])) [.t 37,.t 38]),.m 36 39,.z 40 (.extract 0 (.t 36)),.z 41 (.extract 1 (.t 36)),.m 11 40,.m 12 41]) (.seq (.ops [.m 43 5,.m 44 6,.m 45 9,.z 46 (.bin .add false 3 (.t 44) (.t 45)),.z 47 (.ixAddr 1 (.t 43) (.t 46)),.l 48 47,.m 49 12,.z 50 (.callV (.c (.fn (.func 141) [] [])) [.t 48,.t 49,(.c (.bool false))]),.m 42 50,.z 51 (.extract 0 (.t 42)),.z 52 (.extract 1 (.t 42)),.m 13 51,.m 14 52]) (.seq (.ops [.m 54 13,.m 55 8,.z 56 (.callV (.c (.fn (.func 141) [] [])) [.t 54,.t 55,(.c (.bool false))]),.m 53 56,.z 57 (.extract 0 (.t 53)),.z 58 (.extract 1 (.t 53)),.m 13 57,.m 15 58]) (.seq (.ops [.m 59 5,.m 60 6,.m 61 9,.z 62 (.bin .add false 3 (.t 60) (.t 61)),.m 63 13,.z 64 (.ixAddr 1 (.t 59) (.t 62)),⟨none,none,.store 1 (.t 64) (.t 63)⟩]) (.seq (.ops [.m 66 11,.m 67 14,.z 68 (.callV (.c (.fn (.func 141) [] [])) [.t 66,.c (.u 0),.t 67]),.m 65 68,.z 69 (.extract 0 (.t 65)),.z 70 (.extract 1 (.t 65)),.m 8 69]) (.ops [.m 72 8,.m 73 15,.z 74 (.callV (.c (.fn (.func 141) [] [])) [.t 72,.c (.u 0),.t 73]),.m 71 74,.z 75 (.extract 0 (.t 71)),.z 76 (.extract 1 (.t 71)),.m 8 75])))))))) (.ops [.z 77 (.bin .add true 3 (.t 31) (.c (.i 1))),.m 31 77]))))))) (.ops [.m 78 5,.m 79 6,.m 80 1,.z 81 (.lenSl (.t 80)),.z 82 (.bin .add false 3 (.t 79) (.t 81)),.m 83 8,.z 84 (.ixAddr 1 (.t 78) (.t 82)),⟨none,none,.store 1 (.t 84) (.t 83)⟩]))))) (.ops [.z 85 (.bin .add true 3 (.t 24) (.c (.i 1))),.m 24 85]))))))) (.seq (.ops [.m 86 5,.z 87 (.callV (.c (.fn (.func 42) [] [])) [.t 86]),.m 4 87]) .ret))))
theorem r_nat_Mul:resFn Tryz.prog 100=some ⟨88,c_nat_Mul.r,[.tmp 4]⟩:=by kernel_rfl
theorem k_nat_Mul:c_nat_Mul.ok=true:=by kernel_rfl
def c_nat_Bits:LC:=(.seq (.ops [.z 2 (.move (.c (.i 0)))]) (.seq (.ops [.m 4 0,.z 5 (.callV (.c (.fn (.func 73) [] [])) [.t 4]),.m 3 5]) (.seq (.seq (.ops [.m 6 3,.z 7 (.lenSl (.t 6)),.z 8 (.bin .eql true 3 (.t 7) (.c (.i 0)))]) (.cond (.t 8) (.seq (.ops [.z 2 (.move (.c (.i 0)))]) .ret) .skip)) (.seq (.ops [.m 9 3,.z 10 (.lenSl (.t 9)),.z 11 (.bin .sub true 3 (.t 10) (.c (.i 1))),.z 12 (.bin .mul true 3 (.c (.i 64)) (.t 11)),.m 13 3,.m 14 3,.z 15 (.lenSl (.t 14)),.z 16 (.bin .sub true 3 (.t 15) (.c (.i 1))),.z 17 (.ixAddr 1 (.t 13) (.t 16)),.l 18 17,.z 19 (.callV (.c (.fn (.func 86) [] [])) [.t 18]),.z 20 (.bin .add false 3 (.t 12) (.t 19)),.m 2 20]) .ret))))
theorem r_nat_Bits:resFn Tryz.prog 52=some ⟨21,c_nat_Bits.r,[.tmp 2]⟩:=by kernel_rfl
theorem k_nat_Bits:c_nat_Bits.ok=true:=by kernel_rfl
def c_nat_Bit:LC:=(.seq (.ops [.z 4 (.move (.c (.bool false)))]) (.seq (.ops [.m 5 1,.z 6 (.bin .geq true 3 (.t 5) (.c (.i 0))),.m 7 6,⟨some 8,(some (7,true)),.move (.t 1)⟩,⟨some 9,(some (7,true)),.bin .quo true 3 (.t 8) (.c (.i 64))⟩,⟨some 10,(some (7,true)),.move (.t 0)⟩,⟨some 11,(some (7,true)),.lenSl (.t 10)⟩,⟨some 12,(some (7,true)),.bin .lss false 3 (.t 9) (.t 11)⟩,.z 13 (.pick (.t 7) (.t 12) (.c (.bool false))),.m 14 13,⟨some 15,(some (14,true)),.move (.t 0)⟩,⟨some 16,(some (14,true)),.move (.t 1)⟩,⟨some 17,(some (14,true)),.bin .quo true 3 (.t 16) (.c (.i 64))⟩,⟨some 18,(some (14,true)),.ixAddr 1 (.t 15) (.t 17)⟩,⟨some 19,(some (14,true)),.load1 (.t 18)⟩,⟨some 20,(some (14,true)),.move (.t 1)⟩,⟨some 21,(some (14,true)),.bin .rem true 3 (.t 20) (.c (.i 64))⟩,⟨some 22,(some (14,true)),.bin .shr false 28 (.t 19) (.t 21)⟩,⟨some 23,(some (14,true)),.bin .and true 28 (.t 22) (.c (.u 1))⟩,⟨some 24,(some (14,true)),.bin .eql true 28 (.t 23) (.c (.u 1))⟩,.z 25 (.pick (.t 14) (.t 24) (.c (.bool false))),.m 4 25]) .ret))
theorem r_nat_Bit:resFn Tryz.prog 51=some ⟨26,c_nat_Bit.r,[.tmp 4]⟩:=by kernel_rfl
theorem k_nat_Bit:c_nat_Bit.ok=true:=by kernel_rfl
theorem nat_Bits_ok (a:List UInt64) (ha:a.length≤1000000):FnS Tryz.prog 52 [LU a] (.i (blen (val a))) []:=by
 refine FnS.val rfl (call_body r_nat_Bits k_nat_Bits (by simp) ?_)
 simp[c_nat_Bits]
 refine nat_row_trim_ok a ?_ (by omega)
 have hl:=toL_length_val a
 cases hn:(toL (val a)).length with
 | zero =>
  have h0:val a=0:=toL_eq_nil.1 (List.eq_nil_of_length_eq_zero hn)
  simp[h0,toL_zero,blen_zero]
 | succ n =>
  have hb:=blen_val (Trm_toL (val a)) hn
  rw[val_toL] at hb
  have hne:¬ ((n:Int)+1=0):=by omega
  have hnn:((n:Int)+1 - 1).toNat=n:=by omega
  have hne2:toL (val a)≠[]:=fun e=>by rw[e] at hn; simp at hn
  simp[hn,hne,hnn,hne2]
  refine⟨by omega,by omega,by omega,by omega,?_⟩
  refine CallL_F (word_Bits_ok ((toL (val a)).getD n 0)) (by simp[hn]) ?_
  have hx:blen ((toL (val a)).getD n 0).toNat≤64:=blen_le (UInt64.toNat_lt _)
  rw[hb]
  generalize blen ((toL (val a)).getD n 0).toNat=x at *
  simp
  omega
theorem nat_Bit_ok (a:List UInt64) (i:Int) (hi:i < 9223372036854775808):FnS Tryz.prog 51 [LU a,.i i] (.bool (decide (0≤i) && (val a).testBit i.toNat)) []:=by
 refine FnS.val rfl (call_body r_nat_Bit k_nat_Bit (by simp) ?_)
 by_cases h0:0≤i
 ·obtain⟨n,rfl⟩:=Int.eq_ofNat_of_zero_le h0
  have hb:=bit_at a n
  have e1:(n:Int) / 64=(n / 64:Nat):=by omega
  have e2:(n:Int).tmod 64=(n % 64:Nat):=by rw[Int.tmod_eq_emod_of_nonneg (by omega)]; omega
  have hu:=bit_u' (a.getD (n / 64) 0) (n % 64)
  rw[hb] at hu
  simp at hu
  simp[c_nat_Bit]
  rw[e1,e2]
  by_cases h1:n / 64 < a.length
  ·have h1':¬ a.length≤n / 64:=by omega
   simp[h1,h1',-Int.natCast_ediv,-Int.natCast_emod]
   simp[h1] at hu
   rw[hu]
   cases (val a).testBit n <;> simp <;> omega
  ·have h2:a[n / 64]?=none:=by simp; omega
   have hf:(val a).testBit n=false:=by rw[←hb]; simp[h2]
   simp[h1,hf,-Int.natCast_ediv,-Int.natCast_emod]
   omega
 ·simp[c_nat_Bit,h0]
theorem nat_Mul_ok (a b:List UInt64) (ha:a.length≤500000) (hb:b.length≤500000):FnS Tryz.prog 100 [LU a,LU b] (.dy 0 0) [RU (toL (val a * val b))]:=by
 refine FnS.row (call_body r_nat_Mul k_nat_Mul (by simp) ?_)
 simp[c_nat_Mul]
 refine⟨by omega,by omega,by omega,?_⟩
 have hto:((a.length:Int)+b.length).toNat=a.length+b.length:=by omega
 simp[hto,repU]
 refine loop_nx (fun ρ D G N=>∃ (i:Nat) (out:List UInt64) (st:Nat),D=[]∧N+i=a.length∧G=[.dyn (out.map .u) (a.length+b.length) 1 0 st]∧lk ρ 0=LU a∧lk ρ 1=LU b∧lk ρ 5=.dy 0 0∧lk ρ 22=LU a∧lk ρ 23=.i a.length∧lk ρ 24=.i i∧MulInv a b i 0 out 0) (N:=a.length) ⟨0,List.replicate (a.length+b.length) 0,0,by simp[mul_first]⟩ ?_
 rintro N ρ D G ⟨i,out,st,rfl,hN,rfl,h0,h1,h5,h22,h23,h24,hM⟩ Nx hNx
 have hol:=hM.1
 by_cases hz:N=0
 ·have hi:i=a.length:=by omega
  subst hi
  simp[h24,h23,h5]
  refine CallL_row (nat_Trim_ok out (by omega)) (bors1 (RowAt.bor (l:=out) (.inr ⟨0,0,st,rfl,by simp[hol]⟩))) ?_
  rw[mul_last hM]
  simp
  exact .inr ⟨1,0,0,rfl,by simp[RU]⟩
 have hi:i < a.length:=by omega
 simp[h24,h23,h22,hi,h1]
 refine loop_nx (fun ρ D G M=>∃ (k:Nat) (out:List UInt64) (more:UInt64) (st:Nat),D=[]∧M+k=b.length∧G=[.dyn (out.map .u) (a.length+b.length) 1 0 st]∧lk ρ 0=LU a∧lk ρ 1=LU b∧lk ρ 5=.dy 0 0∧lk ρ 6=.i i∧lk ρ 7=.u (a.getD i 0)∧lk ρ 8=.u more∧lk ρ 22=LU a∧lk ρ 23=.i a.length∧lk ρ 24=.i i∧lk ρ 29=LU b∧lk ρ 30=.i b.length∧lk ρ 31=.i k∧MulInv a b i k out more) (N:=b.length) ⟨0,out,0,st,by simp[h0,h1,h5,h22,h23,h24,hM,hi]⟩ ?_
 rintro M ρ D G ⟨k,out,more,st,rfl,hM2,rfl,h0,h1,h5,h6,h7,h8,h22,h23,h24,h29,h30,h31,hM⟩ Mx hMx
 have hol:=hM.1
 by_cases hz2:M=0
 ·have hk:k=b.length:=by omega
  subst hk
  have hlt:i+b.length < out.length:=by omega
  have hto2:((i:Int)+b.length).toNat=i+b.length:=by omega
  have hlay:=layU out (i+b.length) more hlt
  simp[h31,h30,h5,h6,h1,h8,hto2,h24,hlay]
  refine⟨by omega,by omega,by omega,by omega,by omega,?_⟩
  exact hNx _ _ _ ⟨N - 1,by omega,i+1,out.set (i+b.length) more,st+1,rfl,by omega,by simp,by simp[h0],by simp[h1],by simp[h5],by simp[h22],by simp[h23],by simp,mul_outer hi hM⟩
 have hk:k < b.length:=by omega
 have hlt:i+k < out.length:=by omega
 have hto2:((i:Int)+k).toNat=i+k:=by omega
 have hstep:=mul_inner hi hk hM
 have hlay:=layU out (i+k) (mulC (out.getD (i+k) 0) (a.getD i 0) (b.getD k 0) more).1 hlt
 have hmc1:(mulC (out.getD (i+k) 0) (a.getD i 0) (b.getD k 0) more).1=(addC (addC (out.getD (i+k) 0) (a.getD i 0 * b.getD k 0) false).1 more false).1:=rfl
 have hmc2:(mulC (out.getD (i+k) 0) (a.getD i 0) (b.getD k 0) more).2=(addC (addC (mulHi (a.getD i 0) (b.getD k 0)) 0 (addC (out.getD (i+k) 0) (a.getD i 0 * b.getD k 0) false).2).1 0 (addC (addC (out.getD (i+k) 0) (a.getD i 0 * b.getD k 0) false).1 more false).2).1:=rfl
 have hbk:b[k]=b.getD k 0:=by simp[hk]
 have hok:out[i+k]=out.getD (i+k) 0:=by simp[hlt]
 generalize a.getD i 0=x at *
 generalize b.getD k 0=y at *
 generalize out.getD (i+k) 0=o at *
 simp[h31,h30,h29,hk,h7]
 rw[hbk]
 refine CallL_F (word_Mul_ok x y) (by simp) ?_
 simp[h5,h6,hto2,hlt]
 rw[hok]
 refine⟨by omega,by omega,by omega,?_⟩
 refine CallL_F (word_Add_ok o (x * y) false) (by simp) ?_
 generalize addC o (x * y) false=r1 at *
 simp[h8]
 refine CallL_F (word_Add_ok r1.1 more false) (by simp) ?_
 generalize addC r1.1 more false=r2 at *
 rw[hmc1] at hlay
 simp[h5,h6,hto2,hlay]
 refine⟨by omega,by omega,by omega,by omega,?_⟩
 refine CallL_F (word_Add_ok (mulHi x y) 0 r1.2) (by simp) ?_
 generalize addC (mulHi x y) 0 r1.2=r3 at *
 simp
 refine CallL_F (word_Add_ok r3.1 0 r2.2) (by simp) ?_
 generalize addC r3.1 0 r2.2=r4 at *
 simp[h31]
 refine⟨by omega,?_⟩
 rw[hmc1,hmc2] at hstep
 exact hMx _ _ _ ⟨M - 1,by omega,k+1,out.set (i+k) r2.1,r4.1,st+1,rfl,by omega,by simp,by simp[h0],by simp[h1],by simp[h5],by simp[h6],by simp[h7],by simp,by simp[h22],by simp[h23],by simp[h24],by simp[h29],by simp[h30],by simp,hstep⟩
end Go.Proofs.YtnbnhnjffiagmaaGreat
