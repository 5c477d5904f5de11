/- Words, naturals: what the functions come to. -/
import Derived.Test.YtocgdaojgjnfcaaGreatSvG3
import Derived.Test.YtocgdaojgjnfcaaGreatProg
import Derived.KernelRfl
namespace Go.Proofs.YtocgdaojgjnfcaaGreat
open Go.Sv
set_option linter.unusedSimpArgs false
end Go.Proofs.YtocgdaojgjnfcaaGreat
