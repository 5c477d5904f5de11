/- The number that makes a limb one less than nought: its code. -/
import Derived.Test.YtodjkjimaheggaaGreatSvG3
import Derived.Test.YtodjkjimaheggaaGreatFnMf
namespace Go.Proofs.YtodjkjimaheggaaGreat
open Go.Sv
set_option linter.unusedSimpArgs false
set_option maxRecDepth 10000
def z4a:LC:=(.seq (.ops [.m 9 2,.z 10 (.bin .add true 3 (.t 9) (.c (.i 1))),.m 11 2,.z 12 (.bin .add true 3 (.t 11) (.c (.i 2))),.m 13 2,.z 14 (.bin .add true 3 (.t 13) (.c (.i 3))),.m 6 10,.m 7 12,.m 8 14]) (.seq (.ops [.m 15 0,.m 16 8,.z 17 (.callV (.c (.fn (.func 69) [] [])) [.t 15,.t 16,.c (.u 3)])]) (.seq (.ops [.m 18 0,.m 19 6,.m 20 2,.m 21 1,.m 22 8,.z 23 (.callV (.c (.fn (.func 132) [] [])) [.t 18,.t 19,.t 20,.t 21,.t 22])]) (.seq (.ops [.m 24 0,.m 25 8,.z 26 (.callV (.c (.fn (.func 69) [] [])) [.t 24,.t 25,.c (.u 2)])]) (.seq (.ops [.m 27 0,.m 28 2,.m 29 2,.m 30 8,.z 31 (.callV (.c (.fn (.func 108) [] [])) [.t 27,.c (.i 7),.t 28,.t 29,.t 30])]) (.seq (.seq (.ops [.z 32 (.move (.c (.i 0)))]) (.block 0 (.loop (.seq (.ops [.z 33 (.bin .lss true 3 (.t 32) (.c (.i 5)))]) (.seq (.cond (.t 33) .skip (.exit 0)) (.seq (.block 1 (.seq (.ops [.m 34 0,.m 35 6,.m 36 7,.m 37 1,.m 38 2,.z 39 (.callV (.c (.fn (.func 132) [] [])) [.t 34,.t 35,.t 36,.t 37,.t 38])]) (.seq (.ops [.m 40 0,.m 41 7,.m 42 8,.m 43 7,.z 44 (.callV (.c (.fn (.func 108) [] [])) [.t 40,.c (.i 4),.t 41,.t 42,.t 43])]) (.ops [.m 45 0,.m 46 6,.m 47 2,.m 48 2,.m 49 7,.z 50 (.callV (.c (.fn (.func 132) [] [])) [.t 45,.t 46,.t 47,.t 48,.t 49])])))) (.ops [.z 51 (.bin .add true 3 (.t 32) (.c (.i 1))),.m 32 51]))))))) (.seq (.ops [.m 52 0,.m 53 8,.z 54 (.callV (.c (.fn (.func 69) [] [])) [.t 52,.t 53,.c (.u 0)])]) (.ops [.m 55 0,.m 56 2,.m 57 8,.m 58 2,.z 59 (.callV (.c (.fn (.func 108) [] [])) [.t 55,.c (.i 4),.t 56,.t 57,.t 58])]))))))))
theorem r_montgomery_reckon:z0f Tryz.prog 71=some ⟨60,z4a.r,[]⟩:=by kernel_rfl
theorem k_montgomery_reckon:z4a.ok=true:=by kernel_rfl
theorem borR_lst {G:z03} {v:LV} {l:List LV} {n e:Nat} (h:bor G v (.lst l n e)):borR G v (.lst l n e):=by
 cases v <;> first | exact h | (simp[LV.dat] at h)
theorem zsa {G:z03} {K:LV→z03→Prop} {e:Nat} {ops:List Lo} {deep n r:Int} (hr:0≤r∧r≤1000) (h:EmH G e ops deep) (hl:ops.length≤900000) (k:∀ G',EmH G' e (ops++z90 n r) deep→Kp e G G'→K (.tup []) G'):z0k Tryz.prog (.fn 71) [.ptr e 0,.i n,.i r] G K:=by
 refine z01 r_montgomery_reckon k_montgomery_reckon (by simp) ?_
 simp[z4a]
 repeat (refine⟨by omega,?_⟩)
 refine z6v h (by omega) fun G1 h1 hk1=>?_
 simp
 refine zg6 h1 (by simp; omega) fun G2 h2 hk2=>?_
 simp
 refine z6v h2 (by simp; omega) fun G3 h3 hk3=>?_
 simp
 refine zds h3 (by simp; omega) fun G4 h4 hk4=>?_
 simp
 have hk4:=hk1.trans (hk2.trans (hk3.trans hk4))
 refine z0m (fun ρ D G' N=>∃ i:Nat,D=[]∧N+i=5∧lk ρ 0=.ptr e 0∧lk ρ 1=.i n∧lk ρ 2=.i r∧lk ρ 6=.i (r+1)∧lk ρ 7=.i (r+2)∧lk ρ 8=.i (r+3)∧lk ρ 32=.i i∧EmH G' e (ops++(zeo n r++zdy n r i)) deep∧Kp e G G') (N:=5)
  ⟨0,rfl,by omega,by simp,by simp,by simp,by simp,by simp,by simp,by simp,by simpa [zeo,zdy] using h4,hk4⟩ ?_
 clear h1 h2 h3 h4 hk1 hk2 hk3 hk4
 rintro N ρ D G5 ⟨i,rfl,hN,a0,a1,a2,a6,a7,a8,a32,h5,hk5⟩ Nx hNx
 have hB:(zdy n r i).length=3 * i:=zgq n r i
 have hA:(zeo n r).length=4:=rfl
 by_cases g:i < 5
 ·have g':(i:Int) < 5:=by omega
  simp[a0,a1,a2,a6,a7,a8,a32,g']
  refine zg6 h5 (by simp[hA,hB]; omega) fun G6 h6 hk6=>?_
  simp[a0,a1,a2,a6,a7,a8,a32]
  refine zds h6 (by simp[hA,hB]; omega) fun G7 h7 hk7=>?_
  simp[a0,a1,a2,a6,a7,a8,a32]
  refine zg6 h7 (by simp[hA,hB]; omega) fun G8 h8 hk8=>?_
  simp[a0,a1,a2,a6,a7,a8,a32]
  refine⟨by omega,hNx _ _ _ ⟨N - 1,by omega,i+1,rfl,by omega,by simp[a0],by simp[a1],by simp[a2],by simp[a6],by simp[a7],by simp[a8],by simp,?_,hk5.trans (hk6.trans (hk7.trans hk8))⟩⟩
  rw[zap]
  simpa [zmh] using h8
 ·have hi:i=5:=by omega
  subst hi
  simp[a0,a1,a2,a6,a7,a8,a32]
  refine z6v h5 (by simp[hA,hB]; omega) fun G6 h6 hk6=>?_
  simp[a0,a1,a2,a6,a7,a8,a32]
  refine zds h6 (by simp[hA,hB]; omega) fun G7 h7 hk7=>?_
  simp
  refine k G7 ?_ (hk5.trans (hk6.trans hk7))
  simpa [z90] using h7
end Go.Proofs.YtodjkjimaheggaaGreat
