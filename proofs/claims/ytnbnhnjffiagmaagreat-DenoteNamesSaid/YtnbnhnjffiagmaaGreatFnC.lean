/- Bytes: what the functions come to. -/
import Derived.Test.YtnbnhnjffiagmaaGreatFnB
import Derived.Test.YtnbnhnjffiagmaaGreatSvG3
namespace Go.Proofs.YtnbnhnjffiagmaaGreat
open Go.Sv
set_option linter.unusedSimpArgs false
def c_kit_Same_uint64:LC:=(.seq (.ops [.z 4 (.move (.c (.bool false)))]) (.seq (.seq (.ops [.m 6 0,.z 7 (.lenSl (.t 6)),.m 8 1,.z 9 (.lenSl (.t 8)),.z 10 (.bin .neq false 3 (.t 7) (.t 9))]) (.cond (.t 10) (.seq (.ops [.z 4 (.move (.c (.bool false)))]) .ret) .skip)) (.seq (.seq (.ops [.z 5 (.move (.c (.i 0)))]) (.block 0 (.loop (.seq (.seq (.ops [.m 11 5,.m 12 0,.z 13 (.lenSl (.t 12)),.z 14 (.bin .lss false 3 (.t 11) (.t 13))]) (.cond (.t 14) .skip (.exit 0))) (.seq (.block 1 (.seq (.draw [(.m 17 0,[]),(.m 18 5,[]),(.z 19 (.ixAddr 1 (.t 17) (.t 18)),[]),(.l 20 19,[]),(.m 21 1,[]),(.m 22 5,[]),(.z 23 (.ixAddr 1 (.t 21) (.t 22)),[]),(.l 24 23,[]),(.z 25 (.bin .neq false 28 (.t 20) (.t 24)),[])]) (.cond (.t 25) (.seq (.ops [.z 4 (.move (.c (.bool false)))]) .ret) .skip))) (.ops [.m 15 5,.z 16 (.bin .add true 3 (.t 15) (.c (.i 1))),.m 5 16])))))) (.seq (.ops [.z 4 (.move (.c (.bool true)))]) .ret))))
theorem r_kit_Same_uint64:resFn Tryz.prog 16=some ⟨26,c_kit_Same_uint64.r,[.tmp 4]⟩:=by kernel_rfl
theorem k_kit_Same_uint64:c_kit_Same_uint64.ok=true:=by kernel_rfl
end Go.Proofs.YtnbnhnjffiagmaaGreat
