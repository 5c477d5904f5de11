/- Chapter 22: its example, run. -/
import Derived.Test.YtocgdaojgjnfcaaGreatSvG3
import Derived.Test.YtocgdaojgjnfcaaGreatProg
import Derived.KernelRfl
namespace Go.Proofs.YtocgdaojgjnfcaaGreat
open Go.Sv
theorem mixedP:Tryz.prog.follows .mixedOrders=true:=by kernel_rfl
theorem law22_lives_run:runA Tryz.prog noO 10000 23=true:=by kernel_rfl
theorem law22_lives_ok:FnS Tryz.prog 23 [] (.bool true) []:=FnS.lives ⟨by kernel_rfl,by kernel_rfl⟩ (by kernel_rfl) (runA_lives mixedP law22_lives_run)
end Go.Proofs.YtocgdaojgjnfcaaGreat
