/- Naturals: sums; what is marshalled. -/
import Derived.Test.YtodjkjimaheggaaGreatFnA
namespace Go.Proofs.YtodjkjimaheggaaGreat
open Go.Sv
set_option linter.unusedSimpArgs false
def zc7:LC:=(.seq (.ops [.z 4 (.move (.c .nilSl))]) (.seq (.ops [.z 5 (.move (.c .nilSl))]) (.seq (.ops [.z 6 (.move (.c (.bool false)))]) (.seq (.seq (.ops [.z 7 (.move (.c (.i 0)))]) (.block 0 (.loop (.seq (.seq (.ops [.m 9 7,.m 10 0,.z 11 (.lenSl (.t 10)),.m 12 1,.z 13 (.lenSl (.t 12)),.z 14 (.maxi true (.t 11) (.t 13)),.z 15 (.bin .leq false 3 (.t 9) (.t 14))]) (.cond (.t 15) .skip (.exit 0))) (.seq (.block 1 (.seq (.ops [.z 8 (.move (.c (.u 0)))]) (.seq (.ops [.m 19 0,.m 20 7,.z 21 (.callV (.c (.fn (.func 130) [] [])) [.t 19,.t 20]),.m 22 1,.m 23 7,.z 24 (.callV (.c (.fn (.func 130) [] [])) [.t 22,.t 23]),.m 25 6,.z 26 (.callV (.c (.fn (.func 92) [] [])) [.t 21,.t 24,.t 25]),.m 18 26,.z 27 (.extract 0 (.t 18)),.z 28 (.extract 1 (.t 18)),.m 8 27,.m 6 28]) (.ops [.m 29 5,.m 30 8,.z 31 (.buildSl 1 1 [(.u 0)] [(0,1,.t 30)]),.z 32 (.appG 1 (.t 29) (.t 31)),.m 5 32])))) (.ops [.m 16 7,.z 17 (.bin .add true 3 (.t 16) (.c (.i 1))),.m 7 17])))))) (.seq (.ops [.m 33 5,.z 34 (.callV (.c (.fn (.func 84) [] [])) [.t 33]),.m 4 34]) .ret)))))
theorem r_ref02_Add:z0f Tryz.prog 81=some ⟨35,zc7.r,[.tmp 4]⟩:=by kernel_rfl
theorem k_ref02_Add:zc7.ok=true:=by kernel_rfl
theorem ze5 (a b:List UInt64) (ha:a.length≤1000000) (hb:b.length≤1000000):FnS Tryz.prog 81 [LU a,LU b] (.dy 0 0) [RU (toL (val a+val b))]:=by
 refine FnS.row (z01 r_ref02_Add k_ref02_Add (by simp) ?_)
 simp[zc7]
 refine z0m (fun ρ D G N=>∃ (i:Nat) (c:Bool) (out:List UInt64),D=[]∧N+i=max a.length b.length+1∧lk ρ 0=LU a∧lk ρ 1=LU b∧lk ρ 7=.i i∧lk ρ 6=.bool c∧z49 G (lk ρ 5) out∧out.length=i ∧
  val out+2 ^ (64 * i) * c.toNat=val (a.take i)+val (b.take i)) (N:=max a.length b.length+1) ⟨0,false,[],by simp[z49,val]⟩ ?_
 rintro N ρ D G ⟨i,c,out,rfl,hN,h0,h1,h7,h6,h5,hlen,hv⟩ Nx hNx
 by_cases hz:N=0
 ·subst hz
  have hlt:¬ (i:Int)≤max (a.length:Int) (b.length:Int):=by omega
  simp[h0,h1,h7,hlt]
  rw[z2x (by omega),z2x (by omega)] at hv
  refine zag (z3r out (by omega)) (zv6 h5.bor) ?_
  rw[add_end (m:=i - 1) (by omega) (by omega) (by omega) hv]
  simpa using z49.new
 ·have hle:(i:Int)≤max (a.length:Int) (b.length:Int):=by omega
  simp[h0,h1,h7,hle]
  refine z02 (z2z a i) (by simp) ?_
  simp[h1,h7]
  refine z02 (z2z b i) (by simp) ?_
  simp[h6]
  refine z02 (zee (a.getD i 0) (b.getD i 0) c) (by simp) ?_
  simp
  refine zqq (h5.app _) (xs:=[(addC (a.getD i 0) (b.getD i 0) c).1]) rfl (by simp) (by omega) (fun v' G' hr _=>?_)
  simp[h7]
  refine⟨by omega,hNx _ _ _ ⟨N - 1,by omega,i+1,(addC (a.getD i 0) (b.getD i 0) c).2,_,rfl,by omega,by simp[h0],by simp[h1],by simp,by simp,by simpa using hr,by simp[hlen],add_step hlen hv⟩⟩
end Go.Proofs.YtodjkjimaheggaaGreat
