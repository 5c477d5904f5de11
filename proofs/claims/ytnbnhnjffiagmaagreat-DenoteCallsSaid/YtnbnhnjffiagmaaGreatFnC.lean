/- Bytes: what the functions come to. -/
import Derived.Test.YtnbnhnjffiagmaaGreatFnB
import Derived.Test.YtnbnhnjffiagmaaGreatSvG3
namespace Go.Proofs.YtnbnhnjffiagmaaGreat
open Go.Sv
set_option linter.unusedSimpArgs false
end Go.Proofs.YtnbnhnjffiagmaaGreat
