/- Numbers modulo another one: odd ones, the radix, powers. -/
import Derived.Test.YtodjkjimaheggaaGreatFnN
namespace Go.Proofs.YtodjkjimaheggaaGreat
open Go.Sv
set_option linter.unusedSimpArgs false
def c_ref03_odd:LC:=(.seq (.ops [.z 2 (.move (.c (.bool false)))]) (.seq (.ops [.m 3 0,.z 4 (.lenSl (.t 3)),.z 5 (.bin .gtr true 3 (.t 4) (.c (.i 0))),.m 6 5,⟨some 7,(some (6,true)),.move (.t 0)⟩,⟨some 8,(some (6,true)),.ixAddr 1 (.t 7) (.c (.i 0))⟩,⟨some 9,(some (6,true)),.load1 (.t 8)⟩,⟨some 10,(some (6,true)),.bin .rem true 23 (.t 9) (.c (.u 2))⟩,⟨some 11,(some (6,true)),.bin .eql true 23 (.t 10) (.c (.u 1))⟩,.z 12 (.pick (.t 6) (.t 11) (.c (.bool false))),.m 2 12]) .ret))
theorem r_ref03_odd:resFn Tryz.prog 89=some ⟨13,c_ref03_odd.r,[.tmp 2]⟩:=by kernel_rfl
theorem k_ref03_odd:c_ref03_odd.ok=true:=by kernel_rfl
def c_ref03_Const:LC:=(.seq (.ops [.z 2 (.move (.c (.u 0))),.z 3 (.move (.c (.i 0)))]) (.seq (.seq (.ops [.m 6 0,.z 7 (.callV (.c (.fn (.func 89) [] [])) [.t 6]),.z 8 (.un .not (.t 7))]) (.cond (.t 8) (.seq (.ops [.z 2 (.move (.c (.u 0))),.z 3 (.move (.c (.i 2)))]) .ret) .skip)) (.seq (.ops [.m 10 0,.z 11 (.ixAddr 1 (.t 10) (.c (.i 0))),.l 12 11,.z 13 (.callV (.c (.fn (.func 96) [] [])) [.t 12]),.m 9 13,.z 14 (.extract 0 (.t 9)),.z 15 (.extract 1 (.t 9)),.m 4 14,.m 5 15]) (.seq (.ops [.m 16 4,.z 17 (.un .neg (.t 16)),.m 2 17,.z 3 (.move (.c (.i 0)))]) .ret))))
theorem r_ref03_Const:resFn Tryz.prog 39=some ⟨18,c_ref03_Const.r,[.tmp 2,.tmp 3]⟩:=by kernel_rfl
theorem k_ref03_Const:c_ref03_Const.ok=true:=by kernel_rfl
theorem ref03_odd_ok (n:List UInt64):FnS Tryz.prog 89 [LU n] (.bool (oddL n)) []:=by
 refine FnS.val rfl (call_body r_ref03_odd k_ref03_odd (by simp) ?_)
 cases n with
 | nil=>simp[c_ref03_odd,oddL]
 | cons x l =>
  have h:(0:Int) < (l.length:Int)+1:=by omega
  simp[c_ref03_odd,h,oddL,modU_eq]
theorem odd_head {n:List UInt64} (h:oddL n=true):n.getD 0 0 % 2=1:=of_decide_eq_true h
theorem ref03_Const_ok (n:List UInt64):FnS Tryz.prog 39 [LU n] (.tup [.u (conR n),.i (conE n)]) []:=by
 refine FnS.val rfl (call_body r_ref03_Const k_ref03_Const (by simp) ?_)
 simp[c_ref03_Const]
 refine CallL_F (ref03_odd_ok n) (by simp) ?_
 by_cases h:oddL n=true
 ·have hl:=oddL_len h
  simp[h,hl,conE,conR]
  refine CallL_F (ref01_Inverse_ok (n.getD 0 0) (odd_head h)) (by simp[hl]) ?_
  simp[subU_eq,hl]
 ·simp at h
  simp[h,conE,conR]
end Go.Proofs.YtodjkjimaheggaaGreat
