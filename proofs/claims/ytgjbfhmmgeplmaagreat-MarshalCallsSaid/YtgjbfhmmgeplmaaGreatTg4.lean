/- The templates: see the main text. -/
import Derived.Test.YtgjbfhmmgeplmaaGreatSvG2
import Derived.Test.YtgjbfhmmgeplmaaGreatProg
import Derived.KernelRfl
import Derived.Test.YtgjbfhmmgeplmaaGreatTg0
set_option linter.defProp false
noncomputable section
namespace Go.Proofs.YtgjbfhmmgeplmaaGreat
open Go.Sv
set_option linter.unusedSimpArgs false
set_option maxRecDepth 10000
def mixedP:Tryz.prog.follows .mixedOrders=true:=Aa
def law27_lives_run:uy Tryz.prog noO 10000 15=true:=Aa
def law27_lives_ok:Na 15 [] (.bool true) []:=Np.lives ⟨Aa,Aa⟩ Aa (zsq mixedP law27_lives_run)
end Go.Proofs.YtgjbfhmmgeplmaaGreat
end
