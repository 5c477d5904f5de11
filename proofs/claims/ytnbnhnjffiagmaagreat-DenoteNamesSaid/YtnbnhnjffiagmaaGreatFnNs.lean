/- Chapter 20, the document's: a kernel run; small contracts. -/
import Derived.Test.YtnbnhnjffiagmaaGreatFnNr
namespace Go.Proofs.YtnbnhnjffiagmaaGreat
open Go.Sv
set_option linter.unusedSimpArgs false
set_option maxRecDepth 10000
noncomputable def resG:List (Option Bool)→Option Bool
 | []=>some true
 | o::l=>match o with
  | some true=>resG l
  | some false=>some false
  | none=>none
theorem resGs:∀ l:List Bool,resG (l.map some)=some (l.all id)
 | []=>rfl
 | true::l=>by rw[List.map_cons,resG,resGs l]; rfl
 | false::l=>rfl
theorem factEq (a b c d e f:Int):eqA Tryz.prog false 44 (.agg [.int .i64 a,.int .i64 b,.int .i64 c]) (.agg [.int .i64 d,.int .i64 e,.int .i64 f])=resG [some (eqI a d),some (eqI b e),some (eqI c f)]:=by kernel_rfl
theorem factEq2 (a b c:Int):eqA Tryz.prog false 44 (.agg (toAs [.i a,.i b,.i c])) (.agg (toAs [.i a,.i b,.i c]))=some true:=by
 have h:=factEq a b c a b c
 have e:[some (eqI a a),some (eqI b b),some (eqI c c)]=[eqI a a,eqI b b,eqI c c].map some:=rfl
 rw[e,resGs] at h
 refine Eq.trans h ?_
 simp only[eqI_spec,List.all_cons,List.all_nil,Bool.and_true,id]
 simp
end Go.Proofs.YtnbnhnjffiagmaaGreat
