/- Naturals of bytes; what is the same. -/
import Derived.Test.YtodjkjimaheggaaGreatFnC
namespace Go.Proofs.YtodjkjimaheggaaGreat
open Go.Sv
set_option linter.unusedSimpArgs false
end Go.Proofs.YtodjkjimaheggaaGreat
