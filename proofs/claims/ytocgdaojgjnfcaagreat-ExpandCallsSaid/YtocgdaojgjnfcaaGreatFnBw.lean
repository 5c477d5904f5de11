/- Works: what an operation's code needs. -/
import Derived.Test.YtocgdaojgjnfcaaGreatFnK3
import Derived.Test.YtocgdaojgjnfcaaGreatSvG3
namespace Go.Proofs.YtocgdaojgjnfcaaGreat
open Go.Sv
set_option linter.unusedSimpArgs false
set_option maxRecDepth 10000
def c_expand_given:LC:=(.seq (.ops [.z 1 (.box (.t 0)),.z 2 (.move (.c (.bool false)))]) (.seq (.ops [.f 3 2 1,.l 4 3,.z 5 (.bin .eql true 3 (.t 4) (.c (.i 1))),.m 6 5,⟨some 7,(some (6,false)),.fieldAddr 2 (.t 1)⟩,⟨some 8,(some (6,false)),.load1 (.t 7)⟩,⟨some 9,(some (6,false)),.bin .eql true 3 (.t 8) (.c (.i 2))⟩,.z 10 (.pick (.t 6) (.c (.bool true)) (.t 9)),.m 2 10]) .ret))
theorem r_expand_given:resFn Tryz.prog 105=some ⟨11,c_expand_given.r,[.tmp 2]⟩:=by kernel_rfl
theorem k_expand_given:c_expand_given.ok=true:=by kernel_rfl
def c_expand_kernel:LC:=(.seq (.ops [.z 4 (.alloc [.nilSl,.nilSl,.nilSl])]) (.seq (.ops [.m 8 0,.z 9 (.build [.nilSl,.nilSl,.nilSl] [(0,1,.t 8)]),.z 5 (.alloc [.nilSl,.nilSl,.nilSl]),⟨none,none,.store 3 (.t 5) (.t 9)⟩]) (.seq (.seq (.ops [.m 10 0,.z 11 (.lenSl (.t 10)),.z 12 (.move (.c (.i 0)))]) (.block 0 (.loop (.seq (.ops [.z 13 (.bin .lss false 3 (.t 12) (.t 11))]) (.seq (.cond (.t 13) .skip (.exit 0)) (.seq (.block 1 (.seq (.ops [.m 14 12,.z 15 (.ixAddr 3 (.t 10) (.t 12)),.z 16 (.loadN 3 (.t 15)),.z 7 (.alloc [(.i 0),(.bool false),(.i 0)]),.m 6 14,⟨none,none,.store 3 (.t 7) (.t 16)⟩]) (.seq (.ops [.z 17 (.loadN 3 (.t 7)),.z 18 (.callV (.c (.fn (.func 105) [] [])) [.t 17]),.z 19 (.un .not (.t 18))]) (.cond (.t 19) (.ops [.f 20 1 5,.l 21 20,.m 22 6,.z 23 (.build [(.i 0),(.i 0),(.i 0),(.i 0),(.i 0),(.i 0),(.u 0)] [(0,1,.c (.i 1)),(1,1,.t 22),(2,1,.c (.i (-1))),(3,1,.c (.i (-1))),(4,1,.c (.i (-1))),(5,1,.c (.i (-1)))]),.z 24 (.buildSl 7 1 [(.i 0),(.i 0),(.i 0),(.i 0),(.i 0),(.i 0),(.u 0)] [(0,7,.t 23)]),.z 25 (.appG 7 (.t 21) (.t 24)),.f 26 1 5,⟨none,none,.store 1 (.t 26) (.t 25)⟩]) .skip)))) (.ops [.z 27 (.bin .add true 3 (.t 12) (.c (.i 1))),.m 12 27]))))))) (.seq (.ops [.f 28 1 5,.l 29 28,.m 30 1,.z 31 (.appG 7 (.t 29) (.t 30)),.f 32 1 5,⟨none,none,.store 1 (.t 32) (.t 31)⟩]) (.seq (.ops [.z 33 (.loadN 3 (.t 5)),⟨none,none,.store 3 (.t 4) (.t 33)⟩]) .ret)))))
theorem r_expand_kernel:resFn Tryz.prog 102=some ⟨34,c_expand_kernel.r,[.cellN 4 3]⟩:=by kernel_rfl
theorem k_expand_kernel:c_expand_kernel.ok=true:=by kernel_rfl
def c_expand_Has:LC:=(.seq (.ops [.z 2 (.move (.c (.bool false)))]) (.seq (.ops [.m 3 0,.z 4 (.bin .geq true 3 (.t 3) (.c (.i 1))),.m 5 4,⟨some 6,(some (5,true)),.move (.t 0)⟩,⟨some 7,(some (5,true)),.bin .leq true 3 (.t 6) (.c (.i 11))⟩,.z 8 (.pick (.t 5) (.t 7) (.c (.bool false))),.m 9 8,⟨some 10,(some (9,false)),.move (.t 0)⟩,⟨some 11,(some (9,false)),.bin .eql true 3 (.t 10) (.c (.i 14))⟩,.z 12 (.pick (.t 9) (.c (.bool true)) (.t 11)),.m 2 12]) .ret))
theorem r_expand_Has:resFn Tryz.prog 27=some ⟨13,c_expand_Has.r,[.tmp 2]⟩:=by kernel_rfl
theorem k_expand_Has:c_expand_Has.ok=true:=by kernel_rfl
theorem expand_given_ok (v:Vr):FnS Tryz.prog 105 [.agg v.f] (.bool (givenB v)) []:=by
 refine FnS.val rfl (call_body r_expand_given k_expand_given (by simp) ?_)
 by_cases h1:v.mode=1 <;> simp[c_expand_given,Vr.f,givenB,h1]
theorem startOs_cut {vs:List Vr} {i:Nat} (h:i < vs.length):startOs i (vs.drop i)=(if givenB (gv vs i)=true then [] else [kop 1 i])++startOs (i+1) (vs.drop (i+1)):=by
 rw[drop_gv h,startOs]
 split <;> rfl
theorem cells_agg (l:List LV):(LV.agg l).cells=some l:=rfl
theorem osC_app (a b:List Ko):osC (a++b)=osC a++osC b:=by simp[osC]
theorem expand_kernel_ok (vs:List Vr) (new:List Ko) (hl:vs.length≤1000000) (hn:new.length≤1000000):FnV Tryz.prog 102 [.lst (vsC vs) vs.length 3,.lst (osC new) new.length 7] (.agg (kerC vs (startOs 0 vs++new) [])):=by
 refine FnV.mk (by simp[kerC,LV.dat,dats,vsC_dats,osC_dats]) (call_body r_expand_kernel k_expand_kernel (by simp) ?_)
 simp[c_expand_kernel]
 refine loop_nx (fun ρ D G N=>∃ (i:Nat) (L:List Ko) (v:LV) (st:Nat),D=[]∧N+i=vs.length∧lk ρ 1=.lst (osC new) new.length 7∧lk ρ 4=.ptr 0 0∧lk ρ 5=.ptr 1 0∧lk ρ 10=.lst (vsC vs) vs.length 3∧lk ρ 11=.i vs.length∧lk ρ 12=.i i ∧
   1 < G.length∧G[0]?=some (.cells [.nilSl,.nilSl,.nilSl] 0)∧G[1]?=some (.cells [.lst (vsC vs) vs.length 3,v,.nilSl] st)∧Rw 2 G v 7 L.length (osC L)∧L.length≤i∧startOs 0 vs=L++startOs i (vs.drop i)) (N:=vs.length)
  ⟨0,[],.nilSl,1,rfl,by omega,by simp,by simp,by simp,by simp,by simp,by simp,by simp,by simp,by simp,Rw.nil,by simp,by simp⟩ ?_
 rintro N ρ D G ⟨i,L,v,st,rfl,hN,h1,h4,h5,h10,h11,h12,hl1,hG0,hG1,hR,hLi,hst⟩ Nx hNx
 have hl0:0 < G.length:=by omega
 by_cases g:i < vs.length
 ·have hg:=at_gv g
  have q3:=vs_three hg
  have hqq:=vs_lt g
  have hf:(gv vs i).f=[.i (gv vs i).limbs,.bool (gv vs i).sec,.i (gv vs i).mode]:=rfl
  have hcut:=startOs_cut g
  rw[hcut] at hst
  simp[h10,h11,h12,g,q3,hqq,hf]
  rw[←hf]
  refine CallL_F (expand_given_ok (gv vs i)) (bors_self _ rfl) ?_
  cases hgv:givenB (gv vs i) with
  | true =>
   rw[hgv] at hst
   simp[h12]
   refine⟨by omega,hNx _ _ _ ⟨N - 1,by omega,i+1,L,v,st,rfl,by omega,by simp[h1],by simp[h4],by simp[h5],by simp[h10],by simp[h11],by simp,by simp; omega,by rw[old1 hl0]; exact hG0,by rw[old1 hl1]; exact hG1,hR.push_end,by omega,by simpa using hst⟩⟩
  | false =>
   rw[hgv] at hst
   simp[h5,↓old1 hl1,hG1]
   refine Rw.push (m:=1) (x:=(kop 1 i).f) hR.push_end (by omega) (by simp) (by omega) rfl fun v' G' hR' hfr hb=>?_
   have hG1':G'[1]?=some (.cells [.lst (vsC vs) vs.length 3,v,.nilSl] st):=by rw[hfr 1 (by omega),old1 hl1]; exact hG1
   have hG0':G'[0]?=some (.cells [.nilSl,.nilSl,.nilSl] 0):=by rw[hfr 0 (by omega),old1 hl0]; exact hG0
   have hc:=hR'.cells
   simp[-LV.cells,h5,h12,hG1',hc]
   refine⟨by omega,hNx _ _ _ ⟨N - 1,by omega,i+1,L++[kop 1 i],v',st+1,rfl,by omega,by simp[h1],by simp[h4],by simp[h5],by simp[h10],by simp[h11],by simp,by simp; omega,?_,?_,?_,by simp; omega,by simpa using hst⟩⟩
   ·rw[List.getElem?_set_ne (by omega)]; exact hG0'
   ·rw[List.getElem?_set_self (by omega)]
   ·rw[osC_app,List.length_append,show osC [kop 1 (i:Int)]=(kop 1 i).f by simp[osC]]; exact hR'.set_lt (by omega)
 ·rw[List.drop_of_length_le (by omega)] at hst
  have hst:startOs 0 vs=L:=by simpa [startOs] using hst
  simp[h1,h5,h10,h11,h12,g,hG1]
  refine⟨by omega,?_⟩
  refine Rw.push (m:=new.length) hR (by omega) (by omega) (by omega) (osC_len new) fun v' G' hR' hfr hb=>?_
  have hG1':G'[1]?=some (.cells [.lst (vsC vs) vs.length 3,v,.nilSl] st):=by rw[hfr 1 (by omega)]; exact hG1
  have hG0':G'[0]?=some (.cells [.nilSl,.nilSl,.nilSl] 0):=by rw[hfr 0 (by omega)]; exact hG0
  have hc:=hR'.cells
  have s1:∀ x,(G'.set 1 x)[1]?=some x:=fun x=>List.getElem?_set_self (by omega)
  have s0:∀ x,(G'.set 1 x)[0]?=some (.cells [.nilSl,.nilSl,.nilSl] 0):=fun x=>by rw[List.getElem?_set_ne (by omega)]; exact hG0'
  have s2:∀ x y,((G'.set 1 x).set 0 y)[0]?=some y:=fun x y=>List.getElem?_set_self (by rw[List.length_set]; omega)
  simp[-LV.cells,h4,h5,↓hG1',↓s1,↓s0,↓s2,hc,cells_agg]
  refine⟨_,_,rfl,⟨rfl,vsC_dats vs⟩,_,_,rfl,?_,_,rfl,.inr ⟨7,rfl⟩⟩
  rw[hst,osC_app,List.length_append]
  exact ((hR'.set_lt (by omega)).set_lt (by omega)).bor (dats_app (osC_dats _) (osC_dats _))
theorem expand_Has_ok (k:Int):FnS Tryz.prog 27 [.i k] (.bool (hasK k)) []:=by
 refine FnS.val rfl (call_body r_expand_Has k_expand_Has (by simp) ?_)
 by_cases h1:1≤k
 ·by_cases h2:k≤11 <;> simp[c_expand_Has,hasK,h1,h2]
 ·simp[c_expand_Has,hasK,h1]
end Go.Proofs.YtocgdaojgjnfcaaGreat
