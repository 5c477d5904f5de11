/- Naturals: quotients. -/
import Derived.Test.YtodjkjimaheggaaGreatFnK
namespace Go.Proofs.YtodjkjimaheggaaGreat
open Go.Sv
set_option linter.unusedSimpArgs false
end Go.Proofs.YtodjkjimaheggaaGreat
