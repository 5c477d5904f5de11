/- Rows of naturals. -/
import Derived.Test.YtocgdaojgjnfcaaGreatFnD0
namespace Go.Proofs.YtocgdaojgjnfcaaGreat
open Go.Sv
set_option linter.unusedSimpArgs false
end Go.Proofs.YtocgdaojgjnfcaaGreat
