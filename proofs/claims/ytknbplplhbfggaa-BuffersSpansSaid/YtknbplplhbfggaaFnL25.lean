/- Chapter 25: its example, run. -/
import Derived.Test.YtknbplplhbfggaaSvG4
import Derived.Test.YtknbplplhbfggaaProg
import Derived.KernelRfl
namespace Go.Proofs.Ytknbplplhbfggaa
open Go.Sv

theorem mixedP : Try.prog.follows .mixedOrders = true := by kernel_rfl
theorem law25_lives_run : runA Try.prog noO 10000 5 = true := by kernel_rfl
theorem law25_lives_ok : FnS Try.prog 5 [] (.bool true) [] := FnS.lives ⟨by kernel_rfl, by kernel_rfl⟩ (by kernel_rfl) (runA_lives mixedP law25_lives_run)
end Go.Proofs.Ytknbplplhbfggaa
