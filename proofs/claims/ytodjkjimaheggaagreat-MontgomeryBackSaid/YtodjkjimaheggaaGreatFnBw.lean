/- Works: what an operation's code needs. -/
import Derived.Test.YtodjkjimaheggaaGreatFnK3
import Derived.Test.YtodjkjimaheggaaGreatSvG3
namespace Go.Proofs.YtodjkjimaheggaaGreat
open Go.Sv
set_option linter.unusedSimpArgs false
set_option maxRecDepth 10000
def z7p:LC:=(.seq (.ops [.z 1 (.box (.t 0)),.z 2 (.move (.c (.bool false)))]) (.seq (.ops [.f 3 2 1,.l 4 3,.z 5 (.bin .eql true 3 (.t 4) (.c (.i 1))),.m 6 5,⟨some 7,(some (6,false)),.fieldAddr 2 (.t 1)⟩,⟨some 8,(some (6,false)),.load1 (.t 7)⟩,⟨some 9,(some (6,false)),.bin .eql true 3 (.t 8) (.c (.i 2))⟩,.z 10 (.pick (.t 6) (.c (.bool true)) (.t 9)),.m 2 10]) .ret))
theorem r_expand_given:z0f Tryz.prog 172=some ⟨11,z7p.r,[.tmp 2]⟩:=by kernel_rfl
theorem k_expand_given:z7p.ok=true:=by kernel_rfl
def z70:LC:=(.seq (.ops [.z 4 (.alloc [.nilSl,.nilSl,.nilSl])]) (.seq (.ops [.m 8 0,.z 9 (.build [.nilSl,.nilSl,.nilSl] [(0,1,.t 8)]),.z 5 (.alloc [.nilSl,.nilSl,.nilSl]),⟨none,none,.store 3 (.t 5) (.t 9)⟩]) (.seq (.seq (.ops [.m 10 0,.z 11 (.lenSl (.t 10)),.z 12 (.move (.c (.i 0)))]) (.block 0 (.loop (.seq (.ops [.z 13 (.bin .lss false 3 (.t 12) (.t 11))]) (.seq (.cond (.t 13) .skip (.exit 0)) (.seq (.block 1 (.seq (.ops [.m 14 12,.z 15 (.ixAddr 3 (.t 10) (.t 12)),.z 16 (.loadN 3 (.t 15)),.z 7 (.alloc [(.i 0),(.bool false),(.i 0)]),.m 6 14,⟨none,none,.store 3 (.t 7) (.t 16)⟩]) (.seq (.ops [.z 17 (.loadN 3 (.t 7)),.z 18 (.callV (.c (.fn (.func 172) [] [])) [.t 17]),.z 19 (.un .not (.t 18))]) (.cond (.t 19) (.ops [.f 20 1 5,.l 21 20,.m 22 6,.z 23 (.build [(.i 0),(.i 0),(.i 0),(.i 0),(.i 0),(.i 0),(.u 0)] [(0,1,.c (.i 1)),(1,1,.t 22),(2,1,.c (.i (-1))),(3,1,.c (.i (-1))),(4,1,.c (.i (-1))),(5,1,.c (.i (-1)))]),.z 24 (.buildSl 7 1 [(.i 0),(.i 0),(.i 0),(.i 0),(.i 0),(.i 0),(.u 0)] [(0,7,.t 23)]),.z 25 (.appG 7 (.t 21) (.t 24)),.f 26 1 5,⟨none,none,.store 1 (.t 26) (.t 25)⟩]) .skip)))) (.ops [.z 27 (.bin .add true 3 (.t 12) (.c (.i 1))),.m 12 27]))))))) (.seq (.ops [.f 28 1 5,.l 29 28,.m 30 1,.z 31 (.appG 7 (.t 29) (.t 30)),.f 32 1 5,⟨none,none,.store 1 (.t 32) (.t 31)⟩]) (.seq (.ops [.z 33 (.loadN 3 (.t 5)),⟨none,none,.store 3 (.t 4) (.t 33)⟩]) .ret)))))
theorem r_expand_kernel:z0f Tryz.prog 119=some ⟨34,z70.r,[.cellN 4 3]⟩:=by kernel_rfl
theorem k_expand_kernel:z70.ok=true:=by kernel_rfl
def z60:LC:=(.seq (.ops [.z 3 (.box (.t 1)),.z 4 (.move (.c (.bool false)))]) (.seq (.seq (.ops [.f 5 0 3,.l 6 5,.z 7 (.bin .eql true 3 (.t 6) (.c (.i 15))),.m 8 7,⟨some 9,(some (8,false)),.fieldAddr 0 (.t 3)⟩,⟨some 10,(some (8,false)),.load1 (.t 9)⟩,⟨some 11,(some (8,false)),.bin .eql true 3 (.t 10) (.c (.i 16))⟩,.z 12 (.pick (.t 8) (.c (.bool true)) (.t 11))]) (.cond (.t 12) (.seq (.ops [.z 4 (.move (.c (.bool false)))]) .ret) .skip)) (.seq (.ops [.m 13 0,.z 14 (.loadN 7 (.t 3)),.z 15 (.buildSl 7 1 [(.i 0),(.i 0),(.i 0),(.i 0),(.i 0),(.i 0),(.u 0)] [(0,7,.t 14)]),.z 16 (.callV (.c (.fn (.func 119) [] [])) [.t 13,.t 15]),.z 17 (.callV (.c (.fn (.func 118) [] [])) [.t 16]),.z 18 (.bin .eql true 35 (.t 17) (.c (.i 0))),.m 4 18]) .ret)))
theorem r_expand_May:z0f Tryz.prog 55=some ⟨19,z60.r,[.tmp 4]⟩:=by kernel_rfl
theorem k_expand_May:z60.ok=true:=by kernel_rfl
def z2t:LC:=(.seq (.ops [.z 2 (.move (.c (.i 0)))]) (.seq (.seq (.ops [.m 3 0,.z 4 (.bin .lss true 3 (.t 3) (.c (.i 1)))]) (.cond (.t 4) (.seq (.ops [.z 2 (.move (.c (.i 0)))]) .ret) .skip)) (.seq (.ops [.m 5 0,.z 6 (.bin .add true 3 (.t 5) (.c (.i 2))),.m 2 6]) .ret)))
theorem r_montgomery_Need:z0f Tryz.prog 21=some ⟨7,z2t.r,[.tmp 2]⟩:=by kernel_rfl
theorem k_montgomery_Need:z2t.ok=true:=by kernel_rfl
def z3t:LC:=(.seq (.ops [.z 3 (.box (.t 1)),.z 4 (.move (.c (.i 0)))]) (.seq (.seq (.ops [.f 5 0 3,.l 6 5,.z 7 (.bin .neq true 3 (.t 6) (.c (.i 12))),.m 8 7,⟨some 9,(some (8,false)),.move (.t 0)⟩,⟨some 10,(some (8,false)),.loadN 7 (.t 3)⟩,⟨some 11,(some (8,false)),.callV (.c (.fn (.func 55) [] [])) [.t 9,.t 10]⟩,⟨some 12,(some (8,false)),.un .not (.t 11)⟩,.z 13 (.pick (.t 8) (.c (.bool true)) (.t 12))]) (.cond (.t 13) (.seq (.ops [.z 4 (.move (.c (.i 0)))]) .ret) .skip)) (.seq (.ops [.m 14 0,.f 15 5 3,.l 16 15,.z 17 (.ixAddr 3 (.t 14) (.t 16)),.f 18 0 17,.l 19 18,.z 20 (.callV (.c (.fn (.func 21) [] [])) [.t 19]),.m 4 20]) .ret)))
theorem r_montgomery_Work:z0f Tryz.prog 15=some ⟨21,z3t.r,[.tmp 4]⟩:=by kernel_rfl
theorem k_montgomery_Work:z3t.ok=true:=by kernel_rfl
theorem z9x (v:Vr):FnS Tryz.prog 172 [.agg v.f] (.bool (z2v v)) []:=by
 refine FnS.val rfl (z01 r_expand_given k_expand_given (by simp) ?_)
 by_cases h1:v.mode=1 <;> simp[z7p,Vr.f,z2v,h1]
theorem zp9 {vs:List Vr} {i:Nat} (h:i < vs.length):z2s i (vs.drop i)=(if z2v (gv vs i)=true then [] else [kop 1 i])++z2s (i+1) (vs.drop (i+1)):=by
 rw[zo8 h,z2s]
 split <;> rfl
theorem zso (l:List LV):(LV.agg l).cells=some l:=rfl
theorem zwp (a b:List Ko):osC (a++b)=osC a++osC b:=by simp[osC]
theorem z9b (vs:List Vr) (new:List Ko) (hl:vs.length≤1000000) (hn:new.length≤1000000):FnV Tryz.prog 119 [.lst (vsC vs) vs.length 3,.lst (osC new) new.length 7] (.agg (kerC vs (z2s 0 vs++new) [])):=by
 refine FnV.mk (by simp[kerC,LV.dat,dats,z1f,zb2]) (z01 r_expand_kernel k_expand_kernel (by simp) ?_)
 simp[z70]
 refine z0m (fun ρ D G N=>∃ (i:Nat) (L:List Ko) (v:LV) (st:Nat),D=[]∧N+i=vs.length∧lk ρ 1=.lst (osC new) new.length 7∧lk ρ 4=.ptr 0 0∧lk ρ 5=.ptr 1 0∧lk ρ 10=.lst (vsC vs) vs.length 3∧lk ρ 11=.i vs.length∧lk ρ 12=.i i ∧
   1 < G.length∧G[0]?=some (.cells [.nilSl,.nilSl,.nilSl] 0)∧G[1]?=some (.cells [.lst (vsC vs) vs.length 3,v,.nilSl] st)∧Rw 2 G v 7 L.length (osC L)∧L.length≤i∧z2s 0 vs=L++z2s i (vs.drop i)) (N:=vs.length)
  ⟨0,[],.nilSl,1,rfl,by omega,by simp,by simp,by simp,by simp,by simp,by simp,by simp,by simp,by simp,Rw.nil,by simp,by simp⟩ ?_
 rintro N ρ D G ⟨i,L,v,st,rfl,hN,h1,h4,h5,h10,h11,h12,hl1,hG0,hG1,hR,hLi,hst⟩ Nx hNx
 have hl0:0 < G.length:=by omega
 by_cases g:i < vs.length
 ·have hg:=zbw g
  have q3:=zcm hg
  have hqq:=zsl g
  have hf:(gv vs i).f=[.i (gv vs i).limbs,.bool (gv vs i).sec,.i (gv vs i).mode]:=rfl
  have hcut:=zp9 g
  rw[hcut] at hst
  simp[h10,h11,h12,g,q3,hqq,hf]
  rw[←hf]
  refine z02 (z9x (gv vs i)) (bors_self _ rfl) ?_
  cases hgv:z2v (gv vs i) with
  | true =>
   rw[hgv] at hst
   simp[h12]
   refine⟨by omega,hNx _ _ _ ⟨N - 1,by omega,i+1,L,v,st,rfl,by omega,by simp[h1],by simp[h4],by simp[h5],by simp[h10],by simp[h11],by simp,by simp; omega,by rw[old1 hl0]; exact hG0,by rw[old1 hl1]; exact hG1,hR.push_end,by omega,by simpa using hst⟩⟩
  | false =>
   rw[hgv] at hst
   simp[h5,↓old1 hl1,hG1]
   refine Rw.push (m:=1) (x:=(kop 1 i).f) hR.push_end (by omega) (by simp) (by omega) rfl fun v' G' hR' hfr hb=>?_
   have hG1':G'[1]?=some (.cells [.lst (vsC vs) vs.length 3,v,.nilSl] st):=by rw[hfr 1 (by omega),old1 hl1]; exact hG1
   have hG0':G'[0]?=some (.cells [.nilSl,.nilSl,.nilSl] 0):=by rw[hfr 0 (by omega),old1 hl0]; exact hG0
   have hc:=hR'.cells
   simp[-LV.cells,h5,h12,hG1',hc]
   refine⟨by omega,hNx _ _ _ ⟨N - 1,by omega,i+1,L++[kop 1 i],v',st+1,rfl,by omega,by simp[h1],by simp[h4],by simp[h5],by simp[h10],by simp[h11],by simp,by simp; omega,?_,?_,?_,by simp; omega,by simpa using hst⟩⟩
   ·rw[List.getElem?_set_ne (by omega)]; exact hG0'
   ·rw[List.getElem?_set_self (by omega)]
   ·rw[zwp,List.length_append,show osC [kop 1 (i:Int)]=(kop 1 i).f by simp[osC]]; exact hR'.set_lt (by omega)
 ·rw[List.drop_of_length_le (by omega)] at hst
  have hst:z2s 0 vs=L:=by simpa [z2s] using hst
  simp[h1,h5,h10,h11,h12,g,hG1]
  refine⟨by omega,?_⟩
  refine Rw.push (m:=new.length) hR (by omega) (by omega) (by omega) (osC_len new) fun v' G' hR' hfr hb=>?_
  have hG1':G'[1]?=some (.cells [.lst (vsC vs) vs.length 3,v,.nilSl] st):=by rw[hfr 1 (by omega)]; exact hG1
  have hG0':G'[0]?=some (.cells [.nilSl,.nilSl,.nilSl] 0):=by rw[hfr 0 (by omega)]; exact hG0
  have hc:=hR'.cells
  have s1:∀ x,(G'.set 1 x)[1]?=some x:=fun x=>List.getElem?_set_self (by omega)
  have s0:∀ x,(G'.set 1 x)[0]?=some (.cells [.nilSl,.nilSl,.nilSl] 0):=fun x=>by rw[List.getElem?_set_ne (by omega)]; exact hG0'
  have s2:∀ x y,((G'.set 1 x).set 0 y)[0]?=some y:=fun x y=>List.getElem?_set_self (by rw[List.length_set]; omega)
  simp[-LV.cells,h4,h5,↓hG1',↓s1,↓s0,↓s2,hc,zso]
  refine⟨_,_,rfl,⟨rfl,z1f vs⟩,_,_,rfl,?_,_,rfl,.inr ⟨7,rfl⟩⟩
  rw[hst,zwp,List.length_append]
  exact ((hR'.set_lt (by omega)).set_lt (by omega)).bor (dats_app (zb2 _) (zb2 _))
theorem one_row (o:Ko):o.f=osC [o]:=by simp[osC]
theorem zjk (vs:List Vr) (o:Ko) (hl:vs.length≤1000000):FnS Tryz.prog 55 [.lst (vsC vs) vs.length 3,.agg o.f] (.bool (mayB vs o)) []:=by
 refine FnS.val rfl (z01 r_expand_May k_expand_May (by simp) ?_)
 have hC:o.f=[.i o.kind,.i o.d,.i o.e,.i o.a,.i o.b,.i o.c,.u o.imm]:=rfl
 by_cases h15:o.kind=15
 ·simp[z60,hC,h15]; simp[mayB,zns,h15]
 by_cases h16:o.kind=16
 ·simp[z60,hC,h15,h16]; simp[mayB,zns,h16]
 simp[z60,hC,h15,h16]
 refine zjl (a:=[.lst (vsC vs) vs.length 3]) (b:=[]) rfl ?_
 rw[←hC,one_row]
 refine z1p (z9b vs [o] hl (by simp)) (by simp[dats,LV.dat,z1f,zb2]) ?_
 simp
 refine z02 (z9f vs _ [] (by omega)) (bors_self _ (by simp[kerC,dats,LV.dat,z1f,zb2])) ?_
 simp[mayB,zns,h15,h16,chkE]
theorem zcu (n:Int) (h:1≤n∧n≤512):FnS Tryz.prog 21 [.i n] (.i (n+2)) []:=by
 refine FnS.val rfl (z01 r_montgomery_Need k_montgomery_Need (by simp) ?_)
 have h1:¬ n < 1:=by omega
 simp[z2t,h1]
 omega
theorem z7d (vs:List Vr) (o:Ko) (hl:vs.length≤1000000):FnS Tryz.prog 15 [.lst (vsC vs) vs.length 3,.agg o.f] (.i (zro vs o)) []:=by
 refine FnS.val rfl (z01 r_montgomery_Work k_montgomery_Work (by simp) ?_)
 have hC:o.f=[.i o.kind,.i o.d,.i o.e,.i o.a,.i o.b,.i o.c,.u o.imm]:=rfl
 by_cases hk:o.kind=12
 case neg=>simp[z3t,hC,hk,zro]
 simp[z3t,hC,hk]
 have hf:=zjk vs o hl
 rw[hC,hk] at hf
 refine z02 hf (bors_self _ (by simp[dats,LV.dat,z1f])) ?_
 cases hm:mayB vs o with
 | false=>simp[zro,hm]
 | true =>
 obtain⟨hv,hp,_⟩:=ztb (s:=29) hm (by simp[z1v,hk])
 obtain⟨a,ea,ha,qa,la⟩:=zvi hv (parts_c hp (by decide))
 simp[ea,ha]
 simp[ea] at qa la
 simp[z05 qa]
 refine z02 (zcu (z32 vs (a:Int)) la) (by simp) ?_
 simp[zro,hm,hk,ea]
end Go.Proofs.YtodjkjimaheggaaGreat
