/- Naturals: products of the document, quotients. -/
import Derived.Test.YtodjkjimaheggaaGreatFnI
namespace Go.Proofs.YtodjkjimaheggaaGreat
open Go.Sv
set_option linter.unusedSimpArgs false
def c_ref02_Mul:LC:=(.seq (.ops [.z 4 (.move (.c .nilSl))]) (.seq (.ops [.m 15 0,.z 16 (.callV (.c (.fn (.func 84) [] [])) [.t 15]),.m 17 1,.z 18 (.callV (.c (.fn (.func 84) [] [])) [.t 17]),.m 0 16,.m 1 18]) (.seq (.ops [.m 19 0,.z 20 (.lenSl (.t 19)),.m 21 1,.z 22 (.lenSl (.t 21)),.z 23 (.bin .add false 3 (.t 20) (.t 22)),.z 24 (.mkSl 1 [(.u 0)] (.t 23) (.t 23)),.m 5 24]) (.seq (.seq (.ops [.z 6 (.move (.c (.i 0)))]) (.block 0 (.loop (.seq (.seq (.ops [.m 25 6,.m 26 0,.z 27 (.lenSl (.t 26)),.z 28 (.bin .lss false 3 (.t 25) (.t 27))]) (.cond (.t 28) .skip (.exit 0))) (.seq (.block 1 (.seq (.ops [.z 7 (.move (.c (.u 0)))]) (.seq (.seq (.ops [.z 8 (.move (.c (.i 0)))]) (.block 2 (.loop (.seq (.seq (.ops [.m 31 8,.m 32 1,.z 33 (.lenSl (.t 32)),.z 34 (.bin .lss false 3 (.t 31) (.t 33))]) (.cond (.t 34) .skip (.exit 2))) (.seq (.block 3 (.seq (.draw [(.m 38 0,[]),(.m 39 6,[]),(.z 40 (.ixAddr 1 (.t 38) (.t 39)),[]),(.l 41 40,[]),(.m 42 1,[]),(.m 43 8,[]),(.z 44 (.ixAddr 1 (.t 42) (.t 43)),[]),(.l 45 44,[]),(.z 46 (.callV (.c (.fn (.func 91) [] [])) [.t 41,.t 45]),[]),(.m 37 46,[]),(.z 47 (.extract 0 (.t 37)),[]),(.z 48 (.extract 1 (.t 37)),[]),(.m 9 47,[]),(.m 10 48,[])]) (.seq (.ops [.m 50 5,.m 51 6,.m 52 8,.z 53 (.bin .add false 3 (.t 51) (.t 52)),.z 54 (.ixAddr 1 (.t 50) (.t 53)),.l 55 54,.m 56 10,.z 57 (.callV (.c (.fn (.func 92) [] [])) [.t 55,.t 56,(.c (.bool false))]),.m 49 57,.z 58 (.extract 0 (.t 49)),.z 59 (.extract 1 (.t 49)),.m 11 58,.m 12 59]) (.seq (.ops [.m 61 11,.m 62 7,.z 63 (.callV (.c (.fn (.func 92) [] [])) [.t 61,.t 62,(.c (.bool false))]),.m 60 63,.z 64 (.extract 0 (.t 60)),.z 65 (.extract 1 (.t 60)),.m 13 64,.m 14 65]) (.seq (.ops [.m 66 5,.m 67 6,.m 68 8,.z 69 (.bin .add false 3 (.t 67) (.t 68)),.m 70 13,.z 71 (.ixAddr 1 (.t 66) (.t 69)),⟨none,none,.store 1 (.t 71) (.t 70)⟩]) (.seq (.ops [.m 73 9,.m 74 12,.z 75 (.callV (.c (.fn (.func 92) [] [])) [.t 73,.c (.u 0),.t 74]),.m 72 75,.z 76 (.extract 0 (.t 72)),.z 77 (.extract 1 (.t 72)),.m 7 76]) (.ops [.m 79 7,.m 80 14,.z 81 (.callV (.c (.fn (.func 92) [] [])) [.t 79,.c (.u 0),.t 80]),.m 78 81,.z 82 (.extract 0 (.t 78)),.z 83 (.extract 1 (.t 78)),.m 7 82]))))))) (.ops [.m 35 8,.z 36 (.bin .add true 3 (.t 35) (.c (.i 1))),.m 8 36])))))) (.ops [.m 84 5,.m 85 6,.m 86 1,.z 87 (.lenSl (.t 86)),.z 88 (.bin .add false 3 (.t 85) (.t 87)),.m 89 7,.z 90 (.ixAddr 1 (.t 84) (.t 88)),⟨none,none,.store 1 (.t 90) (.t 89)⟩])))) (.ops [.m 29 6,.z 30 (.bin .add true 3 (.t 29) (.c (.i 1))),.m 6 30])))))) (.seq (.ops [.m 91 5,.z 92 (.callV (.c (.fn (.func 84) [] [])) [.t 91]),.m 4 92]) .ret)))))
theorem r_ref02_Mul:resFn Tryz.prog 31=some ⟨93,c_ref02_Mul.r,[.tmp 4]⟩:=by kernel_rfl
theorem k_ref02_Mul:c_ref02_Mul.ok=true:=by kernel_rfl
theorem ref02_Mul_ok (a0 b0:List UInt64) (ha0:a0.length≤500000) (hb0:b0.length≤500000):FnS Tryz.prog 31 [LU a0,LU b0] (.dy 0 0) [RU (toL (val a0 * val b0))]:=by
 refine FnS.row (call_body r_ref02_Mul k_ref02_Mul (by simp) ?_)
 simp[c_ref02_Mul]
 refine CallL_F (ref02_Trim_ok a0 (by omega)) (by simp) ?_
 simp[RU]
 refine CallL_F (ref02_Trim_ok b0 (by omega)) (by simp) ?_
 have hla:=toL_length_val a0
 have hlb:=toL_length_val b0
 obtain⟨a,ea⟩:∃ a,toL (val a0)=a:=⟨_,rfl⟩
 obtain⟨b,eb⟩:∃ b,toL (val b0)=b:=⟨_,rfl⟩
 have va:val a0=val a:=by rw[←ea,val_toL]
 have vb:val b0=val b:=by rw[←eb,val_toL]
 rw[ea] at hla
 rw[eb] at hlb
 rw[ea,eb,va,vb]
 have ha:a.length≤500000:=by omega
 have hb:b.length≤500000:=by omega
 simp[RU]
 refine⟨by omega,by omega,by omega,?_⟩
 have hto:((a.length:Int)+b.length).toNat=a.length+b.length:=by omega
 simp[hto,repU]
 refine loop_nx (fun ρ D G N=>∃ (i:Nat) (out:List UInt64) (st:Nat),D=[]∧N+i=a.length∧G=[.dyn (out.map .u) (a.length+b.length) 1 0 st]∧lk ρ 0=LU a∧lk ρ 1=LU b∧lk ρ 5=.dy 0 0∧lk ρ 6=.i i∧MulInv a b i 0 out 0) (N:=a.length) ⟨0,List.replicate (a.length+b.length) 0,0,by simp[mul_first]⟩ ?_
 rintro N ρ D G ⟨i,out,st,rfl,hN,rfl,h0,h1,h5,h6,hM⟩ Nx hNx
 have hol:=hM.1
 by_cases hz:N=0
 ·have hi:i=a.length:=by omega
  subst hi
  simp[h6,h0,h5]
  refine CallL_row (ref02_Trim_ok out (by omega)) (bors1 (RowAt.bor (l:=out) (.inr ⟨0,0,st,rfl,by simp[hol]⟩))) ?_
  rw[mul_last hM]
  simp
  exact .inr ⟨1,0,0,rfl,by simp[RU]⟩
 have hi:i < a.length:=by omega
 simp[h6,h0,hi]
 refine loop_nx (fun ρ D G M=>∃ (k:Nat) (out:List UInt64) (more:UInt64) (st:Nat),D=[]∧M+k=b.length∧G=[.dyn (out.map .u) (a.length+b.length) 1 0 st]∧lk ρ 0=LU a∧lk ρ 1=LU b∧lk ρ 5=.dy 0 0∧lk ρ 6=.i i∧lk ρ 7=.u more∧lk ρ 8=.i k∧MulInv a b i k out more) (N:=b.length) ⟨0,out,0,st,by simp[h0,h1,h5,h6,hM]⟩ ?_
 rintro M ρ D G ⟨k,out,more,st,rfl,hM2,rfl,h0,h1,h5,h6,h7,h8,hM⟩ Mx hMx
 have hol:=hM.1
 by_cases hz2:M=0
 ·have hk:k=b.length:=by omega
  subst hk
  have hlt:i+b.length < out.length:=by omega
  have hto2:((i:Int)+b.length).toNat=i+b.length:=by omega
  have hlay:=layU out (i+b.length) more hlt
  simp[h8,h5,h6,h1,h7,hto2,hlay]
  refine⟨by omega,by omega,by omega,by omega,by omega,?_⟩
  exact hNx _ _ _ ⟨N - 1,by omega,i+1,out.set (i+b.length) more,st+1,rfl,by omega,by simp,by simp[h0],by simp[h1],by simp[h5],by simp,mul_outer hi hM⟩
 have hk:k < b.length:=by omega
 have hlt:i+k < out.length:=by omega
 have hto2:((i:Int)+k).toNat=i+k:=by omega
 have hstep:=mul_inner hi hk hM
 have hlay:=layU out (i+k) (mulC (out.getD (i+k) 0) (a.getD i 0) (b.getD k 0) more).1 hlt
 have hmc1:(mulC (out.getD (i+k) 0) (a.getD i 0) (b.getD k 0) more).1=(addC (addC (out.getD (i+k) 0) (a.getD i 0 * b.getD k 0) false).1 more false).1:=rfl
 have hmc2:(mulC (out.getD (i+k) 0) (a.getD i 0) (b.getD k 0) more).2=(addC (addC (mulHi (a.getD i 0) (b.getD k 0)) 0 (addC (out.getD (i+k) 0) (a.getD i 0 * b.getD k 0) false).2).1 0 (addC (addC (out.getD (i+k) 0) (a.getD i 0 * b.getD k 0) false).1 more false).2).1:=rfl
 have hai:a[i]=a.getD i 0:=by simp[hi]
 have hbk:b[k]=b.getD k 0:=by simp[hk]
 have hok:out[i+k]=out.getD (i+k) 0:=by simp[hlt]
 generalize a.getD i 0=x at *
 generalize b.getD k 0=y at *
 generalize out.getD (i+k) 0=o at *
 simp[h8,h0,h1,hk,h6,hi]
 rw[hai,hbk]
 refine CallL_F (ref01_Mul_ok x y) (by simp) ?_
 simp[h5,h6,h8,hto2,hlt]
 rw[hok]
 refine⟨by omega,by omega,by omega,?_⟩
 refine CallL_F (ref01_Add_ok o (x * y) false) (by simp) ?_
 generalize addC o (x * y) false=r1 at *
 simp[h7]
 refine CallL_F (ref01_Add_ok r1.1 more false) (by simp) ?_
 generalize addC r1.1 more false=r2 at *
 rw[hmc1] at hlay
 simp[h5,h6,h8,hto2,hlay]
 refine⟨by omega,by omega,by omega,by omega,?_⟩
 refine CallL_F (ref01_Add_ok (mulHi x y) 0 r1.2) (by simp) ?_
 generalize addC (mulHi x y) 0 r1.2=r3 at *
 simp
 refine CallL_F (ref01_Add_ok r3.1 0 r2.2) (by simp) ?_
 generalize addC r3.1 0 r2.2=r4 at *
 simp[h8]
 refine⟨by omega,?_⟩
 rw[hmc1,hmc2] at hstep
 exact hMx _ _ _ ⟨M - 1,by omega,k+1,out.set (i+k) r2.1,r4.1,st+1,rfl,by omega,by simp,by simp[h0],by simp[h1],by simp[h5],by simp[h6],by simp,by simp,hstep⟩
end Go.Proofs.YtodjkjimaheggaaGreat
