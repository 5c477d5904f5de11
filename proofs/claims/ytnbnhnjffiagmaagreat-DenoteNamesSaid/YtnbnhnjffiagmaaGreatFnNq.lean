/- Chapter 20, the document's: what an operation makes. -/
import Derived.Test.YtnbnhnjffiagmaaGreatFnNp
namespace Go.Proofs.YtnbnhnjffiagmaaGreat
open Go.Sv
set_option linter.unusedSimpArgs false
set_option maxRecDepth 10000
end Go.Proofs.YtnbnhnjffiagmaaGreat
