/- Naturals of the program: products, bits. -/
import Derived.Test.YtodjkjimaheggaaGreatFnH
namespace Go.Proofs.YtodjkjimaheggaaGreat
open Go.Sv
set_option linter.unusedSimpArgs false
end Go.Proofs.YtodjkjimaheggaaGreat
