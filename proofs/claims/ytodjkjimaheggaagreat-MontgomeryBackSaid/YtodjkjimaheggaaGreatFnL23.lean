/- Chapter 23: its example, run. -/
import Derived.Test.YtodjkjimaheggaaGreatSvG3
import Derived.Test.YtodjkjimaheggaaGreatProg
import Derived.KernelRfl
namespace Go.Proofs.YtodjkjimaheggaaGreat
open Go.Sv
theorem mixedP:Tryz.prog.follows .mixedOrders=true:=by kernel_rfl
theorem law23_lives_run:runA Tryz.prog noO 10000 13=true:=by kernel_rfl
theorem law23_lives_ok:FnS Tryz.prog 13 [] (.bool true) []:=FnS.lives ⟨by kernel_rfl,by kernel_rfl⟩ (by kernel_rfl) (zrn mixedP law23_lives_run)
end Go.Proofs.YtodjkjimaheggaaGreat
