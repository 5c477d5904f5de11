/- Numbers modulo another one: inverses. -/
import Derived.Test.YtodjkjimaheggaaGreatFnO
namespace Go.Proofs.YtodjkjimaheggaaGreat
open Go.Sv
set_option linter.unusedSimpArgs false
def RV (G:z03) (v:LV) (l:List UInt64):Prop:=v=LU l∨(v=.nilSl∧l=[])∨∃ q st,v=.dy q 0∧G[q]?=some (.dyn (l.map .u) l.length 1 0 st)
end Go.Proofs.YtodjkjimaheggaaGreat
