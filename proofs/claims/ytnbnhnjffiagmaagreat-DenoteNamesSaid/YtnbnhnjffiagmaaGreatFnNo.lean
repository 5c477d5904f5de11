/- Chapter 20, the document's: what is needed, whether it holds, of any rows. -/
import Derived.Test.YtnbnhnjffiagmaaGreatFnNk
namespace Go.Proofs.YtnbnhnjffiagmaaGreat
open Go.Sv
set_option linter.unusedSimpArgs false
set_option maxRecDepth 10000
theorem rows_at {X:List (List UInt64)} {n:Nat} (h:n < X.length):(X.map LU)[n]?=some (LU (X.getD n [])):=in_at h
end Go.Proofs.YtnbnhnjffiagmaaGreat
