/- Rows of naturals. -/
import Derived.Test.YtodjkjimaheggaaGreatFnD0
namespace Go.Proofs.YtodjkjimaheggaaGreat
open Go.Sv
set_option linter.unusedSimpArgs false
end Go.Proofs.YtodjkjimaheggaaGreat
