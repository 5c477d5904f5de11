/- Chapter 20, the document's: what may be handed in, the start, what is required. -/
import Derived.Test.YtnbnhnjffiagmaaGreatFnNo
namespace Go.Proofs.YtnbnhnjffiagmaaGreat
open Go.Sv
set_option linter.unusedSimpArgs false
set_option maxRecDepth 10000
end Go.Proofs.YtnbnhnjffiagmaaGreat
