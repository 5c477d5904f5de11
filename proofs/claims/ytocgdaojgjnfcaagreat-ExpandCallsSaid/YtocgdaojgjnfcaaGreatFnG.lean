/- Words: what the functions come to. -/
import Derived.Test.YtocgdaojgjnfcaaGreatFnE
import Derived.Test.YtocgdaojgjnfcaaGreatSvG3
namespace Go.Proofs.YtocgdaojgjnfcaaGreat
open Go.Sv
set_option linter.unusedSimpArgs false
end Go.Proofs.YtocgdaojgjnfcaaGreat
