/- Bytes: what the functions come to. -/
import Derived.Test.YtodjkjimaheggaaGreatFnB
import Derived.Test.YtodjkjimaheggaaGreatSvG3
namespace Go.Proofs.YtodjkjimaheggaaGreat
open Go.Sv
set_option linter.unusedSimpArgs false
def z8x:LC:=(.seq (.ops [.z 4 (.move (.c (.bool false)))]) (.seq (.seq (.ops [.z 5 (.move (.c (.i 0)))]) (.block 0 (.loop (.seq (.seq (.ops [.m 8 5,.m 9 0,.z 10 (.lenSl (.t 9)),.z 11 (.bin .lss false 3 (.t 8) (.t 10)),.m 12 11,⟨some 13,(some (12,false)),.move (.t 5)⟩,⟨some 14,(some (12,false)),.move (.t 1)⟩,⟨some 15,(some (12,false)),.lenSl (.t 14)⟩,⟨some 16,(some (12,false)),.bin .lss false 3 (.t 13) (.t 15)⟩,.z 17 (.pick (.t 12) (.c (.bool true)) (.t 16))]) (.cond (.t 17) .skip (.exit 0))) (.seq (.block 1 (.seq (.ops [.z 6 (.move (.c (.u 0))),.z 7 (.move (.c (.u 0)))]) (.seq (.seq (.ops [.m 20 5,.m 21 0,.z 22 (.lenSl (.t 21)),.z 23 (.bin .lss false 3 (.t 20) (.t 22))]) (.cond (.t 23) (.ops [.m 24 0,.m 25 5,.z 26 (.ixAddr 1 (.t 24) (.t 25)),.l 27 26,.m 6 27]) .skip)) (.seq (.seq (.ops [.m 28 5,.m 29 1,.z 30 (.lenSl (.t 29)),.z 31 (.bin .lss false 3 (.t 28) (.t 30))]) (.cond (.t 31) (.ops [.m 32 1,.m 33 5,.z 34 (.ixAddr 1 (.t 32) (.t 33)),.l 35 34,.m 7 35]) .skip)) (.seq (.ops [.m 36 6,.m 37 7,.z 38 (.bin .neq false 23 (.t 36) (.t 37))]) (.cond (.t 38) (.seq (.ops [.z 4 (.move (.c (.bool false)))]) .ret) .skip)))))) (.ops [.m 18 5,.z 19 (.bin .add true 3 (.t 18) (.c (.i 1))),.m 5 19])))))) (.seq (.ops [.z 4 (.move (.c (.bool true)))]) .ret)))
theorem r_kit_Natural:z0f Tryz.prog 32=some ⟨39,z8x.r,[.tmp 4]⟩:=by kernel_rfl
theorem k_kit_Natural:z8x.ok=true:=by kernel_rfl
end Go.Proofs.YtodjkjimaheggaaGreat
