/- Naturals of the program: what the functions come to. -/
import Derived.Test.YtodjkjimaheggaaGreatFnG
import Derived.Test.YtodjkjimaheggaaGreatSvG3
namespace Go.Proofs.YtodjkjimaheggaaGreat
open Go.Sv
set_option linter.unusedSimpArgs false
end Go.Proofs.YtodjkjimaheggaaGreat
