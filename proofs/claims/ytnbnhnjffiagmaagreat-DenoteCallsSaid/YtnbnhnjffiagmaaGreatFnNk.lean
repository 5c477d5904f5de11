/- Chapter 20: kernels of one's own, runs of them. -/
import Derived.Test.YtnbnhnjffiagmaaGreatFnNi
import Derived.Test.YtnbnhnjffiagmaaGreatSvG3
namespace Go.Proofs.YtnbnhnjffiagmaaGreat
open Go.Sv
set_option linter.unusedSimpArgs false
set_option maxRecDepth 10000
theorem runs_len {vs:List Vr} {os rs:List Ko} {ns:List Nat} (hv:vs.length≤1000):(runD vs os rs ns).1.length≤1000∧∀ x∈(runD vs os rs ns).1,x.length≤1000000:=by
 obtain⟨b1,b2⟩:=run_bounds (vs:=vs) (os:=os) (rs:=rs) (ns:=ns)
 by_cases he:(runD vs os rs ns).2=0
 ·obtain⟨c1,c2,c3,c4⟩:=b2 he
  obtain⟨hc,_,_⟩:=fitD_parts c4
  have hvb:varsB vs=true:=by unfold chkB at hc; simp only[Bool.and_eq_true] at hc; exact hc.1
  have hol:(outV vs).length≤vs.length:=by rw[outV_those]; exact thoseV_len _ _ _
  refine⟨by omega,fun x hx=>?_⟩
  obtain⟨i,hi,rfl⟩:=List.mem_iff_getElem.1 hx
  have h1:=c2 i hi (by omega)
  have h2:=varsB_limbs hvb _ (gv_mem (outV_lt (List.getElem_mem (show i < (outV vs).length by omega))))
  omega
 ·rw[b1 he]; simp
theorem same_runs {G:LHeap} {a b:List (List UInt64)} {K:LV→LHeap→Prop} (ha:a.length≤1000∧∀ x∈a,x.length≤1000000) (hb:b.length≤1000∧∀ x∈b,x.length≤1000000) (k:K (.bool (decide (a.map val=b.map val))) G):CallL Tryz.prog (.fn 25) [LN a,LN b] G K:=by
 refine CallL_F (kit_SameNats_ok a b (by omega) (fun x hx=>by have:=ha.2 x hx; omega) (fun x hx=>by have:=hb.2 x hx; omega)) (bors_self _ (by simp[dats,LV.dat,LN,LN_dats])) ?_
 simpa using k
end Go.Proofs.YtnbnhnjffiagmaaGreat
