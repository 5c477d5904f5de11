/- Kernels: the document's way to look at one operation. -/
import Derived.Test.YtnbnhnjffiagmaaGreatFnK4
namespace Go.Proofs.YtnbnhnjffiagmaaGreat
open Go.Sv
set_option linter.unusedSimpArgs false
set_option maxRecDepth 10000
end Go.Proofs.YtnbnhnjffiagmaaGreat
