/- Naturals that are the same. -/
import Derived.Test.YtodjkjimaheggaaGreatFnC
namespace Go.Proofs.YtodjkjimaheggaaGreat
open Go.Sv
set_option linter.unusedSimpArgs false
theorem zbh (a b:List UInt64) (ha:a.length≤1000000) (hb:b.length≤1000000):FnS Tryz.prog 32 [LU a,LU b] (.bool (decide (val a=val b))) []:=by
 refine FnS.val rfl (z01 r_kit_Natural k_kit_Natural (by simp) ?_)
 simp[z8x]
 refine z0m (fun ρ D G N=>∃ i:Nat,D=[]∧N+i=max a.length b.length∧lk ρ 0=LU a∧lk ρ 1=LU b∧lk ρ 5=.i i∧val (a.take i)=val (b.take i)) (N:=max a.length b.length) ⟨0,by simp⟩ ?_
 rintro N ρ D G ⟨i,rfl,hN,h0,h1,h5,hv⟩ Nx hNx
 have next:a.getD i 0=b.getD i 0→val (a.take (i+1))=val (b.take (i+1)):=fun e=>by rw[z2b,z2b,e,hv]
 have diff:a.getD i 0≠b.getD i 0→val a≠val b:=fun e e'=>e (val_getD e' i)
 have nx:a.getD i 0=b.getD i 0→(i < a.length∨i < b.length)→∃ N',N' < N∧N'+(i+1)=max a.length b.length∧val (a.take (i+1))=val (b.take (i+1)):=fun e h=>⟨N - 1,by omega,by omega,next e⟩
 by_cases ia:i < a.length <;> by_cases ib:i < b.length
 ·simp[ia,ib] at next diff nx
  simp[h0,h1,h5,ia,ib]
  refine⟨fun e=>⟨by omega,?_⟩,diff⟩
  obtain⟨N',n1,n2,n3⟩:=nx e
  exact hNx _ _ _ ⟨N',n1,i+1,rfl,n2,by simp[h0],by simp[h1],by simp,n3⟩
 ·have eb:b[i]?=none:=by simp; omega
  simp[ia,eb] at next diff nx
  simp[h0,h1,h5,ia,ib]
  refine⟨fun e=>⟨by omega,?_⟩,diff⟩
  obtain⟨N',n1,n2,n3⟩:=nx e
  exact hNx _ _ _ ⟨N',n1,i+1,rfl,n2,by simp[h0],by simp[h1],by simp,n3⟩
 ·have ea:a[i]?=none:=by simp; omega
  simp[ib,ea] at next diff nx
  simp[h0,h1,h5,ia,ib]
  refine⟨fun e=>⟨by omega,?_⟩,diff⟩
  obtain⟨N',n1,n2,n3⟩:=nx e
  exact hNx _ _ _ ⟨N',n1,i+1,rfl,n2,by simp[h0],by simp[h1],by simp,n3⟩
 ·simp[h0,h1,h5,ia,ib]
  rw[←z2x (a:=a) (n:=i) (by omega),←z2x (a:=b) (n:=i) (by omega),hv]
end Go.Proofs.YtodjkjimaheggaaGreat
