/- Statements with other names: walked. -/
import Derived.Test.YtcbbilifblbblaaSvG4
import Derived.Test.YtcbbilifblbblaaFnTl
namespace Go.Proofs.Ytcbbilifblbblaa
open Go.Sv
set_option linter.unusedSimpArgs false
set_option linter.unusedVariables false
set_option maxRecDepth 10000
end Go.Proofs.Ytcbbilifblbblaa
