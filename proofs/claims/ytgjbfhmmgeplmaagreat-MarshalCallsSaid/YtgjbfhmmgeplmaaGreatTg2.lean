/- The templates: see the main text. -/
import Derived.Test.YtgjbfhmmgeplmaaGreatSvG2
import Derived.Test.YtgjbfhmmgeplmaaGreatProg
import Derived.KernelRfl
import Derived.Test.YtgjbfhmmgeplmaaGreatTg0
set_option linter.defProp false
noncomputable section
namespace Go.Proofs.YtgjbfhmmgeplmaaGreat
open Go.Sv
set_option linter.unusedSimpArgs false
set_option maxRecDepth 10000

end Go.Proofs.YtgjbfhmmgeplmaaGreat
end
