/- Words, naturals: what the functions come to. -/
import Derived.Test.YtodjkjimaheggaaGreatSvG3
import Derived.Test.YtodjkjimaheggaaGreatProg
import Derived.KernelRfl
namespace Go.Proofs.YtodjkjimaheggaaGreat
open Go.Sv
set_option linter.unusedSimpArgs false
def c_ref01_Add:LC:=(.seq (.ops [.z 6 (.move (.c (.u 0))),.z 7 (.move (.c (.bool false)))]) (.seq (.ops [.m 10 0,.m 11 1,.z 12 (.bin .add false 23 (.t 10) (.t 11)),.m 8 12]) (.seq (.ops [.m 13 8,.m 14 0,.z 15 (.bin .lss false 23 (.t 13) (.t 14)),.m 9 15]) (.seq (.seq (.ops [.m 16 2]) (.cond (.t 16) (.seq (.ops [.m 17 8,.z 18 (.bin .add true 23 (.t 17) (.c (.u 1))),.m 8 18]) (.ops [.m 19 9,.m 20 19,⟨some 21,(some (20,false)),.move (.t 8)⟩,⟨some 22,(some (20,false)),.bin .eql true 23 (.t 21) (.c (.u 0))⟩,.z 23 (.pick (.t 20) (.c (.bool true)) (.t 22)),.m 9 23])) .skip)) (.seq (.ops [.m 24 8,.m 25 9,.m 6 24,.m 7 25]) .ret)))))
theorem r_ref01_Add:resFn Tryz.prog 92=some ⟨26,c_ref01_Add.r,[.tmp 6,.tmp 7]⟩:=by kernel_rfl
theorem k_ref01_Add:c_ref01_Add.ok=true:=by kernel_rfl
theorem addC_true (a b:UInt64):(a≤a+b→decide (a+b+1=0)=(addC a b true).2)∧(a+b < a→true=(addC a b true).2):=by
 unfold addC
 refine⟨fun h=>?_,fun h=>?_⟩
 ·have h':¬ a+b < a:=UInt64.not_lt.2 h
  simp[h']
 ·simp[h]
theorem ref01_Add_ok (a b:UInt64) (c:Bool):FnS Tryz.prog 92 [.u a,.u b,.bool c] (.tup [.u (addC a b c).1,.bool (addC a b c).2]) []:=by
 refine FnS.val rfl (call_body r_ref01_Add k_ref01_Add (by simp) ?_)
 cases c
 ·simp[c_ref01_Add]
  simp[addC,addU_eq]
 ·simp[c_ref01_Add]
  simp only[addU_eq]
  exact⟨fun h=>⟨rfl,((addC_true a b).2 h).symm⟩,fun h=>⟨rfl,(addC_true a b).1 h⟩⟩
end Go.Proofs.YtodjkjimaheggaaGreat
