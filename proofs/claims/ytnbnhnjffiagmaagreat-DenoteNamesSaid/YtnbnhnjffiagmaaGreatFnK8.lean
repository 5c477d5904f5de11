/- Kernels: the document's ends. -/
import Derived.Test.YtnbnhnjffiagmaaGreatFnK7
namespace Go.Proofs.YtnbnhnjffiagmaaGreat
open Go.Sv
set_option linter.unusedSimpArgs false
set_option maxRecDepth 10000
end Go.Proofs.YtnbnhnjffiagmaaGreat
