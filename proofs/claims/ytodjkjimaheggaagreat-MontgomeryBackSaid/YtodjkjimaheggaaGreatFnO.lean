/- Numbers modulo another one: odd ones, the radix, powers. -/
import Derived.Test.YtodjkjimaheggaaGreatFnN
namespace Go.Proofs.YtodjkjimaheggaaGreat
open Go.Sv
set_option linter.unusedSimpArgs false
def z95:LC:=(.seq (.ops [.z 2 (.move (.c .nilSl))]) (.seq (.ops [.m 4 0,.z 5 (.bin .add true 3 (.t 4) (.c (.i 1))),.z 6 (.mkSl 1 [(.u 0)] (.t 5) (.t 5)),.m 3 6]) (.seq (.ops [.m 7 3,.m 8 0,.z 9 (.ixAddr 1 (.t 7) (.t 8)),⟨none,none,.store 1 (.t 9) (.c (.u 1))⟩]) (.seq (.ops [.m 10 3,.m 2 10]) .ret))))
theorem r_ref03_power:z0f Tryz.prog 94=some ⟨11,z95.r,[.tmp 2]⟩:=by kernel_rfl
theorem k_ref03_power:z95.ok=true:=by kernel_rfl
def z4o:LC:=(.seq (.ops [.z 4 (.move (.c .nilSl)),.z 5 (.move (.c (.i 0)))]) (.seq (.seq (.ops [.m 6 0,.z 7 (.bin .lss true 3 (.t 6) (.c (.i 0))),.m 8 7,⟨some 9,(some (8,false)),.move (.t 0)⟩,⟨some 10,(some (8,false)),.bin .gtr true 3 (.t 9) (.c (.i 512))⟩,.z 11 (.pick (.t 8) (.c (.bool true)) (.t 10))]) (.cond (.t 11) (.seq (.ops [.z 4 (.move (.c .nilSl)),.z 5 (.move (.c (.i 2)))]) .ret) .skip)) (.seq (.ops [.m 12 0,.z 13 (.callV (.c (.fn (.func 94) [] [])) [.t 12]),.m 14 1,.z 15 (.callV (.c (.fn (.func 93) [] [])) [.t 13,.t 14]),.z 16 (.extract 0 (.t 15)),.z 17 (.extract 1 (.t 15)),.m 4 16,.m 5 17]) .ret)))
theorem r_ref03_Radix:z0f Tryz.prog 33=some ⟨18,z4o.r,[.tmp 4,.tmp 5]⟩:=by kernel_rfl
theorem k_ref03_Radix:z4o.ok=true:=by kernel_rfl
theorem zi2 (k:Nat) (hk:k≤512):FnS Tryz.prog 94 [.i k] (.dy 0 0) [RU (List.replicate k 0++[1])]:=by
 refine FnS.row (z01 r_ref03_power k_ref03_power (by simp) ?_)
 have hto:((k:Int)+1).toNat=k+1:=by omega
 have hlay:=layU (List.replicate (k+1) 0) k 1 (by simp)
 have e:(List.replicate (k+1) (0:UInt64)).set k 1=List.replicate k 0++[1]:=by
  rw[List.replicate_succ']
  simp[List.set_append]
 rw[e] at hlay
 have hr:repL [LV.u 0] (k+1)=(List.replicate (k+1) (0:UInt64)).map .u:=repU _
 simp only[List.map_replicate] at hlay hr
 simp[z95,hto,hr,hlay]
 refine⟨by omega,by omega,by omega,by omega,?_⟩
 exact .inr ⟨0,0,1,rfl,by simp⟩
theorem zhy (l:Int) (n:List UInt64) (hn:n.length≤4000):FnS Tryz.prog 33 [.i l,LU n] (.tup [.dy 0 0,.i (rdE l (val n))]) [RU (rdR l (val n))]:=by
 refine FnS.rowE (z01 r_ref03_Radix k_ref03_Radix (by simp) ?_)
 by_cases h1:l < 0
 ·simp[z4o,h1,rdE,rdR,z49]
 by_cases h2:512 < l
 ·simp[z4o,h1,h2,rdE,rdR,z49]
 obtain⟨k,rfl⟩:=Int.eq_ofNat_of_zero_le (show 0≤l by omega)
 have h4:¬ ((k:Int) < 0):=by omega
 simp[z4o,h2,h4]
 refine z02 (zi2 k (by omega)) (by simp) ?_
 simp[RU]
 refine zbp (zkp (List.replicate k 0++[1]) n (by simp; omega) (by omega)) (by simp) ?_
 have h3:¬ (512 < (k:Int)):=h2
 simp[rdE,rdR,h3,h4,zsv]
 exact .inr ⟨0,0,0,rfl,by simp[RU]⟩
end Go.Proofs.YtodjkjimaheggaaGreat
