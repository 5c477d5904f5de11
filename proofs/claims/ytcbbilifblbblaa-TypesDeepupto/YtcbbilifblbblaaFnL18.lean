/- Chapter 18: its example, run. -/
import Derived.Test.YtcbbilifblbblaaSvG3
import Derived.Test.YtcbbilifblbblaaProg
import Derived.KernelRfl
namespace Go.Proofs.Ytcbbilifblbblaa
open Go.Sv
theorem mixedP : Try.prog.follows .mixedOrders = true := by kernel_rfl
theorem law18_lives_run : runA Try.prog noO 10000 5 = true := by kernel_rfl
theorem law18_lives_ok : FnS Try.prog 5 [] (.bool true) [] := FnS.lives ⟨by kernel_rfl, by kernel_rfl⟩ (by kernel_rfl) (runA_lives mixedP law18_lives_run)
end Go.Proofs.Ytcbbilifblbblaa
