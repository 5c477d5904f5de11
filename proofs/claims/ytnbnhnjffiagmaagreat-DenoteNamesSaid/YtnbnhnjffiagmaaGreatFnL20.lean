/- Chapter 20: its example, run. -/
import Derived.Test.YtnbnhnjffiagmaaGreatSvG3
import Derived.Test.YtnbnhnjffiagmaaGreatProg
import Derived.KernelRfl
namespace Go.Proofs.YtnbnhnjffiagmaaGreat
open Go.Sv
theorem mixedP:Tryz.prog.follows .mixedOrders=true:=by kernel_rfl
theorem law20_lives_run:runA Tryz.prog noO 10000 9=true:=by kernel_rfl
theorem law20_lives_ok:FnS Tryz.prog 9 [] (.bool true) []:=FnS.lives ⟨by kernel_rfl,by kernel_rfl⟩ (by kernel_rfl) (runA_lives mixedP law20_lives_run)
end Go.Proofs.YtnbnhnjffiagmaaGreat
