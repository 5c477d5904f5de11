/- The types of sources. -/
import Derived.Test.YtcbbilifblbblaaSvG4
import Derived.Test.YtcbbilifblbblaaFnTn
namespace Go.Proofs.Ytcbbilifblbblaa
open Go.Sv
theorem src18 : SrcTy Try.prog 3 9 139 74 28 30 147 37 39 31 40 42 34 59 32 90 33 36 22 where
 i := by kernel_rfl
 s := by kernel_rfl
 u := by kernel_rfl
 term := stB_ok (by kernel_rfl)
 terms := by kernel_rfl
 len := stB_ok (by kernel_rfl)
 arg := stB_ok (by kernel_rfl)
 args := by kernel_rfl
 expr := stB_ok (by kernel_rfl)
 strs := by kernel_rfl
 lens := by kernel_rfl
 stmt := stB_ok (by kernel_rfl)
 stmts := by kernel_rfl
 par := stB_ok (by kernel_rfl)
 pars := by kernel_rfl
 cla := stB_ok (by kernel_rfl)
 clas := by kernel_rfl
 prc := stB_ok (by kernel_rfl)
 prcs := by kernel_rfl
 cS := by kernel_rfl
 cTerm := by kernel_rfl
 cArg := by kernel_rfl
 cLen := by kernel_rfl
 cStmt := by kernel_rfl
 cPar := by kernel_rfl
 cCla := by kernel_rfl
 cPrc := by kernel_rfl
def set18 : List TypeId := [3, 9, 139, 74, 28, 30, 147, 37, 39, 31, 40, 42, 34, 59, 32, 90, 33, 36, 22]
theorem set18_ok : okTs Try.prog set18 set18 = true := by kernel_rfl
end Go.Proofs.Ytcbbilifblbblaa
