/- Chapter 20: what its statements share. -/
import Derived.Test.YtnbnhnjffiagmaaGreatFnNh
import Derived.Test.YtnbnhnjffiagmaaGreatFnL20
namespace Go.Proofs.YtnbnhnjffiagmaaGreat
open Go.Sv
set_option linter.unusedSimpArgs false
set_option maxRecDepth 10000
end Go.Proofs.YtnbnhnjffiagmaaGreat
