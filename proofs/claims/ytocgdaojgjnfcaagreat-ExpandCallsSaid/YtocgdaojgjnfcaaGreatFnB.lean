/- Naturals: sums; what is marshalled. -/
import Derived.Test.YtocgdaojgjnfcaaGreatFnA
namespace Go.Proofs.YtocgdaojgjnfcaaGreat
open Go.Sv
set_option linter.unusedSimpArgs false
end Go.Proofs.YtocgdaojgjnfcaaGreat
