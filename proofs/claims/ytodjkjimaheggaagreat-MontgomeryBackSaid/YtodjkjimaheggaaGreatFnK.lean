/- Naturals: products of the document, quotients. -/
import Derived.Test.YtodjkjimaheggaaGreatFnI
namespace Go.Proofs.YtodjkjimaheggaaGreat
open Go.Sv
set_option linter.unusedSimpArgs false
end Go.Proofs.YtodjkjimaheggaaGreat
