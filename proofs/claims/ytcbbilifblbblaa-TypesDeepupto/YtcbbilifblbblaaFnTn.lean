/- What procedures are called does not matter: the law walked. -/
import Derived.Test.YtcbbilifblbblaaSvG4
import Derived.Test.YtcbbilifblbblaaSvG3
import Derived.Test.YtcbbilifblbblaaFnTm
import Derived.Test.YtcbbilifblbblaaFnL18
namespace Go.Proofs.Ytcbbilifblbblaa
open Go.Sv
set_option linter.unusedSimpArgs false
set_option linter.unusedVariables false
set_option maxRecDepth 10000
end Go.Proofs.Ytcbbilifblbblaa
