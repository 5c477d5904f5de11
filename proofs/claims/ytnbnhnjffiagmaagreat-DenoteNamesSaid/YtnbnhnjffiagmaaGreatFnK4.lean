/- Kernels: the document's parts of a check. -/
import Derived.Test.YtnbnhnjffiagmaaGreatFnK3
namespace Go.Proofs.YtnbnhnjffiagmaaGreat
open Go.Sv
set_option linter.unusedSimpArgs false
set_option maxRecDepth 10000
end Go.Proofs.YtnbnhnjffiagmaaGreat
