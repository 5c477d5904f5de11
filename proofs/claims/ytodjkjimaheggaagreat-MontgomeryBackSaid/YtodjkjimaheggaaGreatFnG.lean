/- Words: what the functions come to. -/
import Derived.Test.YtodjkjimaheggaaGreatFnE
import Derived.Test.YtodjkjimaheggaaGreatSvG3
namespace Go.Proofs.YtodjkjimaheggaaGreat
open Go.Sv
set_option linter.unusedSimpArgs false
def z8l:LC:=(.seq (.ops [.z 6 (.move (.c (.u 0))),.z 7 (.move (.c (.bool false)))]) (.seq (.ops [.m 10 0,.m 11 1,.z 12 (.bin .sub false 23 (.t 10) (.t 11)),.m 8 12]) (.seq (.ops [.m 13 0,.m 14 1,.z 15 (.bin .lss false 23 (.t 13) (.t 14)),.m 9 15]) (.seq (.seq (.ops [.m 16 2]) (.cond (.t 16) (.seq (.ops [.m 17 9,.m 18 17,⟨some 19,(some (18,false)),.move (.t 8)⟩,⟨some 20,(some (18,false)),.bin .eql true 23 (.t 19) (.c (.u 0))⟩,.z 21 (.pick (.t 18) (.c (.bool true)) (.t 20)),.m 9 21]) (.ops [.m 22 8,.z 23 (.bin .sub true 23 (.t 22) (.c (.u 1))),.m 8 23])) .skip)) (.seq (.ops [.m 24 8,.m 25 9,.m 6 24,.m 7 25]) .ret)))))
theorem r_ref01_Sub:z0f Tryz.prog 147=some ⟨26,z8l.r,[.tmp 6,.tmp 7]⟩:=by kernel_rfl
theorem k_ref01_Sub:z8l.ok=true:=by kernel_rfl
def zc3:LC:=(.seq (.ops [.z 4 (.move (.c (.u 0))),.z 5 (.move (.c (.u 0)))]) (.seq (.ops [.m 12 0,.z 13 (.bin .shr true 23 (.t 12) (.c (.u 32))),.m 14 0,.z 15 (.bin .and true 23 (.t 14) (.c (.u 4294967295))),.m 6 13,.m 7 15]) (.seq (.ops [.m 16 1,.z 17 (.bin .shr true 23 (.t 16) (.c (.u 32))),.m 18 1,.z 19 (.bin .and true 23 (.t 18) (.c (.u 4294967295))),.m 8 17,.m 9 19]) (.seq (.ops [.m 20 6,.m 21 9,.z 22 (.bin .mul false 23 (.t 20) (.t 21)),.m 23 7,.m 24 9,.z 25 (.bin .mul false 23 (.t 23) (.t 24)),.z 26 (.bin .shr true 23 (.t 25) (.c (.u 32))),.z 27 (.bin .add false 23 (.t 22) (.t 26)),.m 10 27]) (.seq (.ops [.m 28 7,.m 29 8,.z 30 (.bin .mul false 23 (.t 28) (.t 29)),.m 31 10,.z 32 (.bin .and true 23 (.t 31) (.c (.u 4294967295))),.z 33 (.bin .add false 23 (.t 30) (.t 32)),.m 11 33]) (.seq (.ops [.m 34 6,.m 35 8,.z 36 (.bin .mul false 23 (.t 34) (.t 35)),.m 37 10,.z 38 (.bin .shr true 23 (.t 37) (.c (.u 32))),.z 39 (.bin .add false 23 (.t 36) (.t 38)),.m 40 11,.z 41 (.bin .shr true 23 (.t 40) (.c (.u 32))),.z 42 (.bin .add false 23 (.t 39) (.t 41)),.m 43 0,.m 44 1,.z 45 (.bin .mul false 23 (.t 43) (.t 44)),.m 4 42,.m 5 45]) .ret))))))
theorem r_ref01_Mul:z0f Tryz.prog 91=some ⟨46,zc3.r,[.tmp 4,.tmp 5]⟩:=by kernel_rfl
theorem k_ref01_Mul:zc3.ok=true:=by kernel_rfl
def za5:LC:=(.seq (.ops [.z 2 (.move (.c (.i 0)))]) (.seq (.ops [.z 3 (.move (.c (.i 0)))]) (.seq (.block 0 (.loop (.seq (.seq (.ops [.m 4 0,.z 5 (.bin .gtr true 23 (.t 4) (.c (.u 0)))]) (.cond (.t 5) .skip (.exit 0))) (.seq (.block 1 (.ops [.m 8 3,.z 9 (.bin .add true 3 (.t 8) (.c (.i 1))),.m 3 9])) (.ops [.m 6 0,.z 7 (.bin .shr true 23 (.t 6) (.c (.u 1))),.m 0 7]))))) (.seq (.ops [.m 10 3,.m 2 10]) .ret))))
theorem r_ref01_Bits:z0f Tryz.prog 146=some ⟨11,za5.r,[.tmp 2]⟩:=by kernel_rfl
theorem k_ref01_Bits:za5.ok=true:=by kernel_rfl
theorem zl2 (a b:UInt64):(b≤a→decide (a - b=0)=(subC a b true).2)∧(a < b→true=(subC a b true).2):=by
 unfold subC
 refine⟨fun h=>?_,fun h=>?_⟩
 ·have h':¬ a < b:=UInt64.not_lt.2 h
  simp[h']
 ·simp[h]
theorem zec (a b:UInt64) (c:Bool):FnS Tryz.prog 147 [.u a,.u b,.bool c] (.tup [.u (subC a b c).1,.bool (subC a b c).2]) []:=by
 refine FnS.val rfl (z01 r_ref01_Sub k_ref01_Sub (by simp) ?_)
 cases c
 ·simp[z8l]
  simp[subC,z4n]
 ·simp[z8l]
  simp only[z4n]
  exact⟨fun h=>⟨rfl,((zl2 a b).2 h).symm⟩,fun h=>⟨rfl,(zl2 a b).1 h⟩⟩
theorem zlz (a b:UInt64):FnS Tryz.prog 91 [.u a,.u b] (.tup [.u (zdp a b),.u (a * b)]) []:=by
 refine FnS.val rfl (z01 r_ref01_Mul k_ref01_Mul (by simp) ?_)
 simp[zc3]
 exact⟨mul_hi a b,zfh a b⟩
theorem zjz (a:UInt64):FnS Tryz.prog 146 [.u a] (.i (blen a.toNat)) []:=by
 refine FnS.val rfl (z01 r_ref01_Bits k_ref01_Bits (by simp) ?_)
 simp[za5]
 refine z0m (fun ρ D G N=>∃ (x:UInt64) (i:Nat),D=[]∧N=blen x.toNat∧lk ρ 0=.u x∧lk ρ 3=.i i∧i+blen x.toNat=blen a.toNat) (N:=blen a.toNat) ⟨a,0,by simp⟩ ?_
 rintro N ρ D G ⟨x,i,rfl,rfl,h0,h3,hb⟩ Nx hNx
 have hle:blen a.toNat≤64:=zot a.toNat_lt
 by_cases hz:x=0
 ·subst hz
  simp[blen_zero] at hb
  simp[h0,h3,hb]
 ·have hx:x.toNat≠0:=fun e=>hz ((z6m x).2 e)
  have hp:(0:UInt64) < x:=by rw[UInt64.lt_iff_toNat_lt]; simp; omega
  have hh:=zm1 hx
  have hs:(shrU x 1).toNat=x.toNat / 2:=by rw[zu7]
  simp[h0,h3,hp]
  refine⟨by omega,hNx _ _ _ ⟨blen (x.toNat / 2),by omega,shrU x 1,i+1,rfl,by rw[hs],by simp,by simp,by rw[hs]; omega⟩⟩
end Go.Proofs.YtodjkjimaheggaaGreat
