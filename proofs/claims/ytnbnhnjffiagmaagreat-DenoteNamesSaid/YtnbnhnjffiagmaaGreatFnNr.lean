/- Chapter 20, the document's: the operations done, a kernel run. -/
import Derived.Test.YtnbnhnjffiagmaaGreatFnNq
namespace Go.Proofs.YtnbnhnjffiagmaaGreat
open Go.Sv
set_option linter.unusedSimpArgs false
set_option maxRecDepth 10000
end Go.Proofs.YtnbnhnjffiagmaaGreat
