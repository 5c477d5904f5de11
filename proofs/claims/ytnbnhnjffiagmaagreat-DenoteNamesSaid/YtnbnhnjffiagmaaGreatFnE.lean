/- Rows of naturals. -/
import Derived.Test.YtnbnhnjffiagmaaGreatFnD
namespace Go.Proofs.YtnbnhnjffiagmaaGreat
open Go.Sv
set_option linter.unusedSimpArgs false
theorem kit_Same_ok (a b:List UInt64) (hl:a.length≤1000000000):FnS Tryz.prog 16 [LU a,LU b] (.bool (decide (a=b))) []:=by
 refine FnS.val rfl (call_body r_kit_Same_uint64 k_kit_Same_uint64 (by simp) ?_)
 by_cases hab:a.length=b.length
 ·simp[c_kit_Same_uint64,hab]
  refine loop_nx (fun ρ D G N=>∃ i:Nat,D=[]∧N+i=a.length∧lk ρ 0=LU a∧lk ρ 1=LU b∧lk ρ 5=.i i∧a.take i=b.take i) (N:=a.length) ⟨0,by simp[hab]⟩ ?_
  rintro N ρ D G ⟨i,rfl,hN,h0,h1,h5,ht⟩ Nx hNx
  by_cases hz:N=0
  ·have hi:i=a.length:=by omega
   subst hi
   have e:a=b:=by rwa [List.take_length,hab,List.take_length] at ht
   subst e
   simp[h0,h5]
  ·have hi:i < a.length:=by omega
   have hib:i < b.length:=by omega
   by_cases hx:a[i]=b[i]
   ·simp[h0,h1,h5,hi,hib,hx]
    refine⟨by omega,hNx _ _ _ ⟨N - 1,by omega,i+1,rfl,by omega,by simp[h0],by simp[h1],by simp,?_⟩⟩
    rw[List.take_succ_eq_append_getElem hi,List.take_succ_eq_append_getElem hib,ht,hx]
   ·have e:a≠b:=fun e=>hx (by subst e; rfl)
    simp[h0,h1,h5,hi,hib,hx,e]
 ·have e:a≠b:=fun e=>hab (by rw[e])
  have hab':¬ (a.length:Int)=b.length:=by omega
  simp[c_kit_Same_uint64,hab,hab',e]
end Go.Proofs.YtnbnhnjffiagmaaGreat
