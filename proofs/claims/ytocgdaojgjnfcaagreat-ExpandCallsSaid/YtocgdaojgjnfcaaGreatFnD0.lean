/- Naturals that are the same. -/
import Derived.Test.YtocgdaojgjnfcaaGreatFnC
namespace Go.Proofs.YtocgdaojgjnfcaaGreat
open Go.Sv
set_option linter.unusedSimpArgs false
end Go.Proofs.YtocgdaojgjnfcaaGreat
