/- Numbers modulo another one: what the functions come to. -/
import Derived.Test.YtodjkjimaheggaaGreatFnL
import Derived.Test.YtodjkjimaheggaaGreatSvG3
namespace Go.Proofs.YtodjkjimaheggaaGreat
open Go.Sv
set_option linter.unusedSimpArgs false
def z9q:LC:=(.seq (.ops [.z 4 (.move (.c .nilSl)),.z 5 (.move (.c (.i 0)))]) (.seq (.ops [.m 10 0,.m 11 1,.z 12 (.callV (.c (.fn (.func 28) [] [])) [.t 10,.t 11]),.m 9 12,.z 13 (.extract 0 (.t 9)),.z 14 (.extract 1 (.t 9)),.z 15 (.extract 2 (.t 9)),.m 6 13,.m 7 14,.m 8 15]) (.seq (.ops [.m 16 7,.m 17 8,.m 4 16,.m 5 17]) .ret)))
theorem r_ref03_rest:z0f Tryz.prog 93=some ⟨18,z9q.r,[.tmp 4,.tmp 5]⟩:=by kernel_rfl
theorem k_ref03_rest:z9q.ok=true:=by kernel_rfl
theorem zkp (a n:List UInt64) (ha:a.length≤10000) (hn:n.length≤10000):FnS Tryz.prog 93 [LU a,LU n] (.tup [.dy 0 0,.i (mE (val n))]) [RU (mR (val n) (val a % val n))]:=by
 refine FnS.rowE (z01 r_ref03_rest k_ref03_rest (by simp) ?_)
 simp[z9q]
 refine zbp (z7l a n ha hn) (by simp) ?_
 by_cases h:val n=0
 ·simp[h,mE,mR]
  exact .inr ⟨1,0,0,rfl,by simp[RU]⟩
 ·simp[h,mE,mR]
  exact .inr ⟨1,0,0,rfl,by simp[RU]⟩
end Go.Proofs.YtodjkjimaheggaaGreat
