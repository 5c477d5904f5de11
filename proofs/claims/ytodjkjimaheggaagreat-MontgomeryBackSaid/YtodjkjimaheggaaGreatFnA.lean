/- Words, naturals: what the functions come to. -/
import Derived.Test.YtodjkjimaheggaaGreatSvG3
import Derived.Test.YtodjkjimaheggaaGreatProg
import Derived.KernelRfl
namespace Go.Proofs.YtodjkjimaheggaaGreat
open Go.Sv
set_option linter.unusedSimpArgs false
def z4h:LC:=(.seq (.ops [.z 4 (.move (.c (.u 0)))]) (.seq (.seq (.ops [.m 5 1,.z 6 (.bin .geq true 3 (.t 5) (.c (.i 0))),.m 7 6,⟨some 8,(some (7,true)),.move (.t 1)⟩,⟨some 9,(some (7,true)),.move (.t 0)⟩,⟨some 10,(some (7,true)),.lenSl (.t 9)⟩,⟨some 11,(some (7,true)),.bin .lss false 3 (.t 8) (.t 10)⟩,.z 12 (.pick (.t 7) (.t 11) (.c (.bool false)))]) (.cond (.t 12) (.seq (.ops [.m 13 0,.m 14 1,.z 15 (.ixAddr 1 (.t 13) (.t 14)),.l 16 15,.m 4 16]) .ret) .skip)) (.seq (.ops [.z 4 (.move (.c (.u 0)))]) .ret)))
theorem r_ref02_limb:z0f Tryz.prog 130=some ⟨17,z4h.r,[.tmp 4]⟩:=by kernel_rfl
theorem k_ref02_limb:z4h.ok=true:=by kernel_rfl
def za2:LC:=(.seq (.ops [.z 2 (.move (.c .nilSl))]) (.seq (.ops [.m 4 0,.z 5 (.lenSl (.t 4)),.m 3 5]) (.seq (.block 0 (.loop (.seq (.seq (.ops [.m 6 3,.z 7 (.bin .gtr true 3 (.t 6) (.c (.i 0))),.m 8 7,⟨some 9,(some (8,true)),.move (.t 0)⟩,⟨some 10,(some (8,true)),.move (.t 3)⟩,⟨some 11,(some (8,true)),.bin .sub true 3 (.t 10) (.c (.i 1))⟩,⟨some 12,(some (8,true)),.ixAddr 1 (.t 9) (.t 11)⟩,⟨some 13,(some (8,true)),.load1 (.t 12)⟩,⟨some 14,(some (8,true)),.bin .eql true 23 (.t 13) (.c (.u 0))⟩,.z 15 (.pick (.t 8) (.t 14) (.c (.bool false)))]) (.cond (.t 15) .skip (.exit 0))) (.block 1 (.ops [.m 16 3,.z 17 (.bin .sub true 3 (.t 16) (.c (.i 1))),.m 3 17]))))) (.seq (.ops [.z 18 (.buildSl 1 0 [] []),.m 19 0,.m 20 3,.z 21 (.slSl 1 (.t 19) none (some (.t 20))),.z 22 (.appG 1 (.t 18) (.t 21)),.m 2 22]) .ret))))
theorem r_ref02_Trim:z0f Tryz.prog 84=some ⟨23,za2.r,[.tmp 2]⟩:=by kernel_rfl
theorem k_ref02_Trim:za2.ok=true:=by kernel_rfl
def z8q:LC:=(.seq (.ops [.z 6 (.move (.c (.u 0))),.z 7 (.move (.c (.bool false)))]) (.seq (.ops [.m 10 0,.m 11 1,.z 12 (.bin .add false 23 (.t 10) (.t 11)),.m 8 12]) (.seq (.ops [.m 13 8,.m 14 0,.z 15 (.bin .lss false 23 (.t 13) (.t 14)),.m 9 15]) (.seq (.seq (.ops [.m 16 2]) (.cond (.t 16) (.seq (.ops [.m 17 8,.z 18 (.bin .add true 23 (.t 17) (.c (.u 1))),.m 8 18]) (.ops [.m 19 9,.m 20 19,⟨some 21,(some (20,false)),.move (.t 8)⟩,⟨some 22,(some (20,false)),.bin .eql true 23 (.t 21) (.c (.u 0))⟩,.z 23 (.pick (.t 20) (.c (.bool true)) (.t 22)),.m 9 23])) .skip)) (.seq (.ops [.m 24 8,.m 25 9,.m 6 24,.m 7 25]) .ret)))))
theorem r_ref01_Add:z0f Tryz.prog 92=some ⟨26,z8q.r,[.tmp 6,.tmp 7]⟩:=by kernel_rfl
theorem k_ref01_Add:z8q.ok=true:=by kernel_rfl
def z69:LC:=(.seq (.ops [.z 2 (.move (.c .nilSl))]) (.seq (.ops [.z 3 (.buildSl 1 0 [] []),.m 4 0,.z 5 (.appG 1 (.t 3) (.t 4)),.m 2 5]) .ret))
theorem r_kit_Own_uint64:z0f Tryz.prog 27=some ⟨6,z69.r,[.tmp 2]⟩:=by kernel_rfl
theorem k_kit_Own_uint64:z69.ok=true:=by kernel_rfl
theorem z2z (a:List UInt64) (i:Int):FnS Tryz.prog 130 [LU a,.i i] (.u (if 0≤i then a.getD i.toNat 0 else 0)) []:=by
 refine FnS.val rfl (z01 r_ref02_limb k_ref02_limb (by simp) ?_)
 by_cases h0:0≤i <;> by_cases h1:i < a.length
 ·have h2:i.toNat < a.length:=by omega
  simp[z4h,h0,h1,h2]
 ·have h2:a[i.toNat]?=none:=by simp; omega
  simp[z4h,h0,h1,h2]
 ·simp[z4h,h0,h1]
 ·simp[z4h,h0,h1]
theorem z3r (a:List UInt64) (ha:a.length≤1048576):FnS Tryz.prog 84 [LU a] (.dy 0 0) [RU (toL (val a))]:=by
 refine FnS.row (z01 r_ref02_Trim k_ref02_Trim (by simp) ?_)
 simp[za2]
 refine loop_wp (fun ρ D G N=>D=[]∧G=[]∧N≤a.length∧lk ρ 0=LU a∧lk ρ 3=.i N∧val (a.take N)=val a) (N:=a.length) (by simp) ?_
 rintro N ρ D G ⟨rfl,rfl,hN,h0,h3,ht⟩
 simp at h0
 have fin:(N=0∨a.getD (N - 1) 0≠0)→toL (val a)=a.take N:=by
  intro h
  rw[←ht]
  refine toL_val ?_
  rcases h with rfl | h
  ·exact .inl (by simp)
  ·by_cases hz:N=0
   ·subst hz; exact .inl (by simp)
   ·have:N=(N - 1)+1:=by omega
    rw[this,zbg (by omega)]
    exact Trm_snoc h
 by_cases hz:N=0
 ·subst hz
  have hf:=fin (.inl rfl)
  simp at h3 hf
  simp[h0,h3,hf,z49]
  exact⟨0,1,⟨rfl,rfl⟩,by simp⟩
 ·obtain⟨n,rfl⟩:∃ n,N=n+1:=⟨N - 1,by omega⟩
  have hlt:n < a.length:=by omega
  have h5:((n:Int)+1 - 1).toNat=n:=by omega
  simp[h0,h3,hlt,h5]
  refine⟨by omega,fun hz0=>⟨by omega,n,by omega,by omega,rfl,?_⟩,fun hz0=>⟨by omega,by omega,by omega,?_⟩⟩
  ·rw[←ht,z97 hlt]
   simp[hlt,hz0]
  ·have hf:=fin (.inr (by simpa [hlt] using hz0))
   refine .inr ⟨0,1,1,rfl,?_⟩
   rw[hf]
   simp[List.map_take]
   omega
theorem zde (a:List UInt64) (ha:a.length≤1048576):FnS Tryz.prog 27 [LU a] (.dy 0 0) [RU a]:=by
 refine FnS.row (z01 r_kit_Own_uint64 k_kit_Own_uint64 (by simp) ?_)
 simp[z69,ha]
 exact .inr ⟨0,1,1,rfl,by simp⟩
theorem zlm (a b:UInt64):(a≤a+b→decide (a+b+1=0)=(addC a b true).2)∧(a+b < a→true=(addC a b true).2):=by
 unfold addC
 refine⟨fun h=>?_,fun h=>?_⟩
 ·have h':¬ a+b < a:=UInt64.not_lt.2 h
  simp[h']
 ·simp[h]
theorem zee (a b:UInt64) (c:Bool):FnS Tryz.prog 92 [.u a,.u b,.bool c] (.tup [.u (addC a b c).1,.bool (addC a b c).2]) []:=by
 refine FnS.val rfl (z01 r_ref01_Add k_ref01_Add (by simp) ?_)
 cases c
 ·simp[z8q]
  simp[addC,z2h]
 ·simp[z8q]
  simp only[z2h]
  exact⟨fun h=>⟨rfl,((zlm a b).2 h).symm⟩,fun h=>⟨rfl,(zlm a b).1 h⟩⟩
end Go.Proofs.YtodjkjimaheggaaGreat
