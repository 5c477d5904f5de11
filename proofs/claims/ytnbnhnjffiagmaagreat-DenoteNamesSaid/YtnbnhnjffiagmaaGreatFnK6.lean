/- Kernels: the document's check. -/
import Derived.Test.YtnbnhnjffiagmaaGreatFnK5
namespace Go.Proofs.YtnbnhnjffiagmaaGreat
open Go.Sv
set_option linter.unusedSimpArgs false
set_option maxRecDepth 10000
end Go.Proofs.YtnbnhnjffiagmaaGreat
