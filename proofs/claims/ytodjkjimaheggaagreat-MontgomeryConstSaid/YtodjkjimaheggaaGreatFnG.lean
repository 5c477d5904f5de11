/- Words: what the functions come to. -/
import Derived.Test.YtodjkjimaheggaaGreatFnE
import Derived.Test.YtodjkjimaheggaaGreatSvG3
namespace Go.Proofs.YtodjkjimaheggaaGreat
open Go.Sv
set_option linter.unusedSimpArgs false
def c_ref01_Sub:LC:=(.seq (.ops [.z 6 (.move (.c (.u 0))),.z 7 (.move (.c (.bool false)))]) (.seq (.ops [.m 10 0,.m 11 1,.z 12 (.bin .sub false 23 (.t 10) (.t 11)),.m 8 12]) (.seq (.ops [.m 13 0,.m 14 1,.z 15 (.bin .lss false 23 (.t 13) (.t 14)),.m 9 15]) (.seq (.seq (.ops [.m 16 2]) (.cond (.t 16) (.seq (.ops [.m 17 9,.m 18 17,⟨some 19,(some (18,false)),.move (.t 8)⟩,⟨some 20,(some (18,false)),.bin .eql true 23 (.t 19) (.c (.u 0))⟩,.z 21 (.pick (.t 18) (.c (.bool true)) (.t 20)),.m 9 21]) (.ops [.m 22 8,.z 23 (.bin .sub true 23 (.t 22) (.c (.u 1))),.m 8 23])) .skip)) (.seq (.ops [.m 24 8,.m 25 9,.m 6 24,.m 7 25]) .ret)))))
theorem r_ref01_Sub:resFn Tryz.prog 147=some ⟨26,c_ref01_Sub.r,[.tmp 6,.tmp 7]⟩:=by kernel_rfl
theorem k_ref01_Sub:c_ref01_Sub.ok=true:=by kernel_rfl
def c_ref01_Mul:LC:=(.seq (.ops [.z 4 (.move (.c (.u 0))),.z 5 (.move (.c (.u 0)))]) (.seq (.ops [.m 12 0,.z 13 (.bin .shr true 23 (.t 12) (.c (.u 32))),.m 14 0,.z 15 (.bin .and true 23 (.t 14) (.c (.u 4294967295))),.m 6 13,.m 7 15]) (.seq (.ops [.m 16 1,.z 17 (.bin .shr true 23 (.t 16) (.c (.u 32))),.m 18 1,.z 19 (.bin .and true 23 (.t 18) (.c (.u 4294967295))),.m 8 17,.m 9 19]) (.seq (.ops [.m 20 6,.m 21 9,.z 22 (.bin .mul false 23 (.t 20) (.t 21)),.m 23 7,.m 24 9,.z 25 (.bin .mul false 23 (.t 23) (.t 24)),.z 26 (.bin .shr true 23 (.t 25) (.c (.u 32))),.z 27 (.bin .add false 23 (.t 22) (.t 26)),.m 10 27]) (.seq (.ops [.m 28 7,.m 29 8,.z 30 (.bin .mul false 23 (.t 28) (.t 29)),.m 31 10,.z 32 (.bin .and true 23 (.t 31) (.c (.u 4294967295))),.z 33 (.bin .add false 23 (.t 30) (.t 32)),.m 11 33]) (.seq (.ops [.m 34 6,.m 35 8,.z 36 (.bin .mul false 23 (.t 34) (.t 35)),.m 37 10,.z 38 (.bin .shr true 23 (.t 37) (.c (.u 32))),.z 39 (.bin .add false 23 (.t 36) (.t 38)),.m 40 11,.z 41 (.bin .shr true 23 (.t 40) (.c (.u 32))),.z 42 (.bin .add false 23 (.t 39) (.t 41)),.m 43 0,.m 44 1,.z 45 (.bin .mul false 23 (.t 43) (.t 44)),.m 4 42,.m 5 45]) .ret))))))
theorem r_ref01_Mul:resFn Tryz.prog 91=some ⟨46,c_ref01_Mul.r,[.tmp 4,.tmp 5]⟩:=by kernel_rfl
theorem k_ref01_Mul:c_ref01_Mul.ok=true:=by kernel_rfl
def c_ref01_Inverse:LC:=(.seq (.ops [.z 2 (.move (.c (.u 0))),.z 3 (.move (.c (.bool false)))]) (.seq (.seq (.ops [.m 6 0,.z 7 (.bin .rem true 23 (.t 6) (.c (.u 2))),.z 8 (.bin .eql true 23 (.t 7) (.c (.u 0)))]) (.cond (.t 8) (.seq (.ops [.z 2 (.move (.c (.u 0))),.z 3 (.move (.c (.bool false)))]) .ret) .skip)) (.seq (.ops [.z 4 (.move (.c (.u 0)))]) (.seq (.seq (.ops [.z 5 (.move (.c (.i 0)))]) (.block 0 (.loop (.seq (.seq (.ops [.m 9 5,.z 10 (.bin .lss true 3 (.t 9) (.c (.i 64)))]) (.cond (.t 10) .skip (.exit 0))) (.seq (.block 1 (.seq (.ops [.m 13 0,.m 14 4,.z 15 (.bin .mul false 23 (.t 13) (.t 14)),.z 16 (.bin .xor true 23 (.t 15) (.c (.u 1))),.m 17 5,.z 18 (.cvInt .u64 (.t 17)),.z 19 (.bin .shr false 23 (.t 16) (.t 18)),.z 20 (.bin .and true 23 (.t 19) (.c (.u 1))),.z 21 (.bin .eql true 23 (.t 20) (.c (.u 1)))]) (.cond (.t 21) (.ops [.m 22 4,.m 23 5,.z 24 (.cvInt .u64 (.t 23)),.z 25 (.bin .shl true 23 (.c (.u 1)) (.t 24)),.z 26 (.bin .or false 23 (.t 22) (.t 25)),.m 4 26]) .skip))) (.ops [.m 11 5,.z 12 (.bin .add true 3 (.t 11) (.c (.i 1))),.m 5 12])))))) (.seq (.ops [.m 27 4,.m 2 27,.z 3 (.move (.c (.bool true)))]) .ret)))))
theorem r_ref01_Inverse:resFn Tryz.prog 96=some ⟨28,c_ref01_Inverse.r,[.tmp 2,.tmp 3]⟩:=by kernel_rfl
theorem k_ref01_Inverse:c_ref01_Inverse.ok=true:=by kernel_rfl
theorem subC_true (a b:UInt64):(b≤a→decide (a - b=0)=(subC a b true).2)∧(a < b→true=(subC a b true).2):=by
 unfold subC
 refine⟨fun h=>?_,fun h=>?_⟩
 ·have h':¬ a < b:=UInt64.not_lt.2 h
  simp[h']
 ·simp[h]
theorem ref01_Sub_ok (a b:UInt64) (c:Bool):FnS Tryz.prog 147 [.u a,.u b,.bool c] (.tup [.u (subC a b c).1,.bool (subC a b c).2]) []:=by
 refine FnS.val rfl (call_body r_ref01_Sub k_ref01_Sub (by simp) ?_)
 cases c
 ·simp[c_ref01_Sub]
  simp[subC,subU_eq]
 ·simp[c_ref01_Sub]
  simp only[subU_eq]
  exact⟨fun h=>⟨rfl,((subC_true a b).2 h).symm⟩,fun h=>⟨rfl,(subC_true a b).1 h⟩⟩
theorem ref01_Mul_ok (a b:UInt64):FnS Tryz.prog 91 [.u a,.u b] (.tup [.u (mulHi a b),.u (a * b)]) []:=by
 refine FnS.val rfl (call_body r_ref01_Mul k_ref01_Mul (by simp) ?_)
 simp[c_ref01_Mul]
 exact⟨mul_hi a b,mulU_eq a b⟩
theorem ref01_Inverse_ok (n:UInt64) (hn:n % 2=1):FnS Tryz.prog 96 [.u n] (.tup [.u (inv64 n),.bool true]) []:=by
 refine FnS.val rfl (call_body r_ref01_Inverse k_ref01_Inverse (by simp) ?_)
 have h1:¬ modU n 2=0:=by rw[modU_eq,hn]; decide
 have hn2:n.toNat % 2=1:=by simpa using congrArg UInt64.toNat hn
 simp[c_ref01_Inverse,h1]
 refine loop_nx (fun ρ D G N=>∃ (x:UInt64) (i:Nat),D=[]∧N+i=64∧lk ρ 0=.u n∧lk ρ 4=.u x∧lk ρ 5=.i i∧InvAt n i x) (N:=64) ⟨0,0,by simp[inv_start]⟩ ?_
 rintro N ρ D G ⟨x,i,rfl,hN,h0,h4,h5,hI⟩ Nx hNx
 by_cases hz:N=0
 ·have hi:i=64:=by omega
  subst hi
  simp[h4,h5]
  exact (inv64_eq (inv_end hI)).symm
 ·have hi:(i:Int) < 64:=by omega
  have hiU:(iU (i:Int)).toNat=i:=iU_nat (by omega)
  obtain⟨s1,s2⟩:=inv_step hn2 (show i < 64 by omega) hI
  by_cases hb:andU (shrU (xorU (mulU n x) 1) i) 1=1
  ·simp[h0,h4,h5,hi,hiU,hb]
   refine⟨by omega,hNx _ _ _ ⟨N - 1,by omega,_,i+1,rfl,by omega,by simp[h0],by simp,by simp,s1 hb⟩⟩
  ·simp[h0,h4,h5,hi,hiU,hb]
   refine⟨by omega,hNx _ _ _ ⟨N - 1,by omega,x,i+1,rfl,by omega,by simp[h0],by simp[h4],by simp,s2 hb⟩⟩
end Go.Proofs.YtodjkjimaheggaaGreat
