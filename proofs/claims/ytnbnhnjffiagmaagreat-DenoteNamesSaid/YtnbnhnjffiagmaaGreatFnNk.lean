/- Chapter 20: kernels of one's own, runs of them. -/
import Derived.Test.YtnbnhnjffiagmaaGreatFnNi
import Derived.Test.YtnbnhnjffiagmaaGreatSvG3
namespace Go.Proofs.YtnbnhnjffiagmaaGreat
open Go.Sv
set_option linter.unusedSimpArgs false
set_option maxRecDepth 10000
def c_law20_op:LC:=(.seq (.ops [.z 12 (.alloc [(.i 0),(.i 0),(.i 0),(.i 0),(.i 0),(.i 0),(.u 0)])]) (.seq (.ops [.m 13 0,.m 14 1,.m 15 2,.m 16 3,.m 17 4,.m 18 5,.z 19 (.build [(.i 0),(.i 0),(.i 0),(.i 0),(.i 0),(.i 0),(.u 0)] [(0,1,.t 13),(1,1,.t 14),(2,1,.c (.i (-1))),(3,1,.t 15),(4,1,.t 16),(5,1,.t 17),(6,1,.t 18)]),⟨none,none,.store 7 (.t 12) (.t 19)⟩]) .ret))
theorem r_law20_op:resFn Tryz.prog 13=some ⟨20,c_law20_op.r,[.cellN 12 7]⟩:=by kernel_rfl
theorem k_law20_op:c_law20_op.ok=true:=by kernel_rfl
theorem law20_op_ok (k d a b c:Int) (n:UInt64):FnS Tryz.prog 13 [.i k,.i d,.i a,.i b,.i c,.u n] (.agg (Ko.f ⟨k,d,-1,a,b,c,n⟩)) []:=by
 refine FnS.val rfl (call_body r_law20_op k_law20_op (by simp) ?_)
 simp[c_law20_op,Ko.f]
end Go.Proofs.YtnbnhnjffiagmaaGreat
