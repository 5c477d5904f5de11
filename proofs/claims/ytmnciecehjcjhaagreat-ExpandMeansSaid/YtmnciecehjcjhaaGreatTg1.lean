/- The templates: see the main text. -/
import Derived.Test.YtmnciecehjcjhaaGreatSvG2
import Derived.Test.YtmnciecehjcjhaaGreatProg
import Derived.KernelRfl
import Derived.Test.YtmnciecehjcjhaaGreatTg0
set_option linter.defProp false
noncomputable section
namespace Go.Proofs.YtmnciecehjcjhaaGreat
open Go.Sv
set_option linter.unusedSimpArgs false
set_option maxRecDepth 10000
def mixedP:Tryz.prog.follows .mixedOrders=true:=Aa
def law22_lives_run:runA Tryz.prog noO 10000 5=true:=Aa
def law22_lives_ok:Pl 5 [] (.bool true) []:=P4.lives ⟨Aa,Aa⟩ Aa (zvy mixedP law22_lives_run)
end Go.Proofs.YtmnciecehjcjhaaGreat
end
