/- Kernels: whether variables may be. -/
import Derived.Test.YtodjkjimaheggaaGreatFnK1
namespace Go.Proofs.YtodjkjimaheggaaGreat
open Go.Sv
set_option linter.unusedSimpArgs false
set_option maxRecDepth 10000
def z7v:LC:=(.seq (.ops [.z 2 (.move (.c (.bool false)))]) (.seq (.ops [.z 3 (.move (.c (.i 0)))]) (.seq (.seq (.ops [.m 6 0,.z 7 (.lenSl (.t 6)),.z 8 (.move (.c (.i 0)))]) (.block 0 (.loop (.seq (.ops [.z 9 (.bin .lss false 3 (.t 8) (.t 7))]) (.seq (.cond (.t 9) .skip (.exit 0)) (.seq (.block 1 (.seq (.ops [.m 10 8,.z 11 (.ixAddr 3 (.t 6) (.t 8)),.z 12 (.loadN 3 (.t 11)),.z 5 (.alloc [(.i 0),(.bool false),(.i 0)]),.m 4 10,⟨none,none,.store 3 (.t 5) (.t 12)⟩]) (.seq (.seq (.ops [.f 13 0 5,.l 14 13,.z 15 (.bin .lss true 3 (.t 14) (.c (.i 1))),.m 16 15,⟨some 17,(some (16,false)),.fieldAddr 0 (.t 5)⟩,⟨some 18,(some (16,false)),.load1 (.t 17)⟩,⟨some 19,(some (16,false)),.bin .gtr true 3 (.t 18) (.c (.i 512))⟩,.z 20 (.pick (.t 16) (.c (.bool true)) (.t 19)),.m 21 20,⟨some 22,(some (21,false)),.fieldAddr 2 (.t 5)⟩,⟨some 23,(some (21,false)),.load1 (.t 22)⟩,⟨some 24,(some (21,false)),.bin .lss true 3 (.t 23) (.c (.i 0))⟩,.z 25 (.pick (.t 21) (.c (.bool true)) (.t 24)),.m 26 25,⟨some 27,(some (26,false)),.fieldAddr 2 (.t 5)⟩,⟨some 28,(some (26,false)),.load1 (.t 27)⟩,⟨some 29,(some (26,false)),.bin .gtr true 3 (.t 28) (.c (.i 3))⟩,.z 30 (.pick (.t 26) (.c (.bool true)) (.t 29))]) (.cond (.t 30) (.seq (.ops [.z 2 (.move (.c (.bool false)))]) .ret) .skip)) (.seq (.seq (.ops [.f 31 2 5,.l 32 31,.z 33 (.bin .eql true 3 (.t 32) (.c (.i 0)))]) (.cond (.t 33) (.exit 1) .skip)) (.seq (.seq (.ops [.m 34 3,.m 35 4,.z 36 (.bin .lss false 3 (.t 34) (.t 35)),.m 37 36,⟨some 38,(some (37,false)),.fieldAddr 1 (.t 5)⟩,⟨some 39,(some (37,false)),.load1 (.t 38)⟩,⟨some 40,(some (37,false)),.fieldAddr 2 (.t 5)⟩,⟨some 41,(some (37,false)),.load1 (.t 40)⟩,⟨some 42,(some (37,false)),.bin .neq true 3 (.t 41) (.c (.i 1))⟩,⟨some 43,(some (37,false)),.bin .neq false 4 (.t 39) (.t 42)⟩,.z 44 (.pick (.t 37) (.c (.bool true)) (.t 43))]) (.cond (.t 44) (.seq (.ops [.z 2 (.move (.c (.bool false)))]) .ret) .skip)) (.ops [.m 45 3,.z 46 (.bin .add true 3 (.t 45) (.c (.i 1))),.m 3 46])))))) (.ops [.z 47 (.bin .add true 3 (.t 8) (.c (.i 1))),.m 8 47]))))))) (.seq (.ops [.m 48 0,.z 49 (.lenSl (.t 48)),.z 50 (.bin .geq true 3 (.t 49) (.c (.i 1))),.m 51 50,⟨some 52,(some (51,true)),.move (.t 0)⟩,⟨some 53,(some (51,true)),.lenSl (.t 52)⟩,⟨some 54,(some (51,true)),.bin .leq true 3 (.t 53) (.c (.i 256))⟩,.z 55 (.pick (.t 51) (.t 54) (.c (.bool false))),.m 56 55,⟨some 57,(some (56,true)),.move (.t 3)⟩,⟨some 58,(some (56,true)),.bin .leq true 3 (.t 57) (.c (.i 12))⟩,.z 59 (.pick (.t 56) (.t 58) (.c (.bool false))),.m 2 59]) .ret))))
theorem r_lengths_vars:z0f Tryz.prog 164=some ⟨60,z7v.r,[.tmp 2]⟩:=by kernel_rfl
theorem k_lengths_vars:z7v.ok=true:=by kernel_rfl
theorem zgk (vs:List Vr) (hl:vs.length≤9223372036854775807):FnS Tryz.prog 164 [.lst (vsC vs) vs.length 3] (.bool (z81 vs)) []:=by
 refine FnS.val rfl (z01 r_lengths_vars k_lengths_vars (by simp) ?_)
 simp[z7v]
 refine z0m (fun ρ D G N=>∃ i p:Nat,D=[]∧N+i=vs.length∧p≤i∧lk ρ 0=.lst (vsC vs) vs.length 3∧lk ρ 3=.i p∧lk ρ 6=.lst (vsC vs) vs.length 3∧lk ρ 7=.i vs.length∧lk ρ 8=.i i∧vgo i p (vs.drop i)=vgo 0 0 vs) (N:=vs.length) ⟨0,0,by simp⟩ ?_
 rintro N ρ D G ⟨i,p,rfl,hN,hpi,h0,h3,h6,h7,h8,hv⟩ Nx hNx
 by_cases g:i < vs.length
 ·have hg:=zbw g
  have q3:=zcm hg
  have hq:=zsl g
  rw[zo8 g] at hv
  have hf:(gv vs i).f=[.i (gv vs i).limbs,.bool (gv vs i).sec,.i (gv vs i).mode]:=rfl
  generalize gv vs i=v at *
  have bad:vgo i p (v::vs.drop (i+1))=none→z81 vs=false:=fun h=>by rw[h] at hv; simp[z81,←hv]
  by_cases b1:v.limbs < 1
  ·simp[h0,h3,h6,h7,h8,g,q3,hq,hf,b1]
   exact bad (by simp[vgo,zhv,b1])
  by_cases b2:512 < v.limbs
  ·simp[h0,h3,h6,h7,h8,g,q3,hq,hf,b1,b2]
   exact bad (by simp[vgo,zhv,b1,b2])
  by_cases b3:v.mode < 0
  ·simp[h0,h3,h6,h7,h8,g,q3,hq,hf,b1,b2,b3]
   exact bad (by simp[vgo,zhv,b1,b2,b3])
  by_cases b4:3 < v.mode
  ·simp[h0,h3,h6,h7,h8,g,q3,hq,hf,b1,b2,b3,b4]
   exact bad (by simp[vgo,zhv,b1,b2,b3,b4])
  by_cases b5:v.mode=0
  ·simp[h0,h3,h6,h7,h8,g,q3,hq,hf,b1,b2,b3,b4,b5]
   refine⟨by omega,hNx _ _ _ ⟨N - 1,by omega,i+1,p,rfl,by omega,by omega,by simp[h0],by simp[h3],by simp[h6],by simp[h7],by simp,?_⟩⟩
   rw[←hv]; simp[vgo,zhv,b1,b2,b3,b4,b5]
  by_cases b6:p < i
  ·simp[h0,h3,h6,h7,h8,g,q3,hq,hf,b1,b2,b3,b4,b5,b6]
   exact bad (by simp[vgo,zhv,b1,b2,b3,b4,b5,b6])
  by_cases b7:v.sec=decide (v.mode=1)
  ·simp[h0,h3,h6,h7,h8,g,q3,hq,hf,b1,b2,b3,b4,b5,b6,eqbP,b7]
   exact bad (by simp[vgo,zhv,b1,b2,b3,b4,b5,b6,b7])
  ·have b8:v.sec=!decide (v.mode=1):=by cases hs:v.sec <;> cases hm:decide (v.mode=1) <;> simp_all
   simp[h0,h3,h6,h7,h8,g,q3,hq,hf,b1,b2,b3,b4,b5,b6,eqbP,b8]
   refine⟨by omega,by omega,hNx _ _ _ ⟨N - 1,by omega,i+1,p+1,rfl,by omega,by omega,by simp[h0],by simp,by simp[h6],by simp[h7],by simp,?_⟩⟩
   rw[←hv]; simp[vgo,zhv,b1,b2,b3,b4,b5,b6,b7]
 ·have ei:i=vs.length:=by omega
  rw[List.drop_of_length_le (by omega)] at hv
  have hv2:vgo 0 0 vs=some p:=by rw[←hv]; rfl
  by_cases g1:1≤vs.length
  ·by_cases g2:vs.length≤256
   ·simp[h0,h3,h6,h7,h8,g,z81,hv2,g1,g2]
    omega
   ·simp[h0,h3,h6,h7,h8,g,z81,hv2,g1,g2]
    omega
  ·simp[h0,h3,h6,h7,h8,g,z81,hv2,g1]
   omega
end Go.Proofs.YtodjkjimaheggaaGreat
