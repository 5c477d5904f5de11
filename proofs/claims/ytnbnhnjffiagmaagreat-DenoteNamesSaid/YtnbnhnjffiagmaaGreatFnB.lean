/- Naturals: sums; what is marshalled. -/
import Derived.Test.YtnbnhnjffiagmaaGreatFnA
namespace Go.Proofs.YtnbnhnjffiagmaaGreat
open Go.Sv
set_option linter.unusedSimpArgs false
end Go.Proofs.YtnbnhnjffiagmaaGreat
