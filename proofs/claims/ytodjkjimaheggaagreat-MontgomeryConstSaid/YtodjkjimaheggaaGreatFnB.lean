/- Naturals: sums; what is marshalled. -/
import Derived.Test.YtodjkjimaheggaaGreatFnA
namespace Go.Proofs.YtodjkjimaheggaaGreat
open Go.Sv
set_option linter.unusedSimpArgs false
end Go.Proofs.YtodjkjimaheggaaGreat
