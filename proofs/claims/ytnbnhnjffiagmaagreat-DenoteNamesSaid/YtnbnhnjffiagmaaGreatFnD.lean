/- Naturals of bytes; what is the same. -/
import Derived.Test.YtnbnhnjffiagmaaGreatFnC
namespace Go.Proofs.YtnbnhnjffiagmaaGreat
open Go.Sv
set_option linter.unusedSimpArgs false
end Go.Proofs.YtnbnhnjffiagmaaGreat
