/- A plain plan, its product's code: kit.Plain, montgomery.Code. -/
import Derived.Test.YtodjkjimaheggaaGreatSvG3
import Derived.Test.YtodjkjimaheggaaGreatSvG4
import Derived.Test.YtodjkjimaheggaaGreatFnX1
import Derived.Test.YtodjkjimaheggaaGreatFnMk
import Derived.Test.YtodjkjimaheggaaGreatFnMo
namespace Go.Proofs.YtodjkjimaheggaaGreat
open Go.Sv
set_option linter.unusedSimpArgs false
set_option maxRecDepth 10000
def z9s:LC:=(.seq (.ops [.z 4 (.move (.c .nilSl))]) (.seq (.ops [.m 6 0,.m 7 1,.z 8 (.build [(.i 0),(.bool false),(.i 0)] [(0,1,.t 6),(1,1,.t 7)]),.z 5 (.alloc [(.i 0),(.bool false),(.i 0)]),⟨none,none,.store 3 (.t 5) (.t 8)⟩]) (.seq (.ops [.z 9 (.loadN 3 (.t 5)),.z 10 (.loadN 3 (.t 5)),.z 11 (.loadN 3 (.t 5)),.z 12 (.loadN 3 (.t 5)),.z 13 (.buildSl 3 4 [(.i 0),(.bool false),(.i 0),(.i 0),(.bool false),(.i 0),(.i 0),(.bool false),(.i 0),(.i 0),(.bool false),(.i 0)] [(0,3,.t 9),(3,3,.t 10),(6,3,.t 11),(9,3,.t 12)]),.m 4 13]) .ret)))
theorem r_law23_four:z0f Tryz.prog 35=some ⟨14,z9s.r,[.tmp 4]⟩:=by kernel_rfl
theorem k_law23_four:z9s.ok=true:=by kernel_rfl
def zai:LC:=(.seq (.ops [.z 0 (.alloc [(.i 0),(.i 0),(.i 0),(.i 0),(.i 0),(.i 0),(.u 0)])]) (.seq (.ops [.z 1 (.build [(.i 0),(.i 0),(.i 0),(.i 0),(.i 0),(.i 0),(.u 0)] [(0,1,.c (.i 12)),(1,1,.c (.i 3)),(2,1,.c (.i (-1))),(3,1,.c (.i 0)),(4,1,.c (.i 1)),(5,1,.c (.i 2))]),⟨none,none,.store 7 (.t 0) (.t 1)⟩]) .ret))
theorem r_law23_mont:z0f Tryz.prog 36=some ⟨2,zai.r,[.cellN 0 7]⟩:=by kernel_rfl
theorem k_law23_mont:zai.ok=true:=by kernel_rfl
def zbs:LC:=(.seq (.ops [.z 4 (.alloc [.nilSl,.nilSl,(.i 0),(.i 0),(.i 0),(.i 0),(.i 0),(.i 0)])]) (.seq (.ops [.z 5 (.alloc [.nilSl,.nilSl,(.i 0),(.i 0),(.i 0),(.i 0),(.i 0),(.i 0)])]) (.seq (.seq (.ops [.z 6 (.move (.c (.i 0)))]) (.block 0 (.loop (.seq (.seq (.ops [.m 8 6,.m 9 0,.z 10 (.lenSl (.t 9)),.z 11 (.bin .lss false 3 (.t 8) (.t 10))]) (.cond (.t 11) .skip (.exit 0))) (.seq (.block 1 (.seq (.draw [(.f 14 0 5,[]),(.l 15 14,[]),(.m 16 0,[]),(.m 17 6,[]),(.z 18 (.ixAddr 3 (.t 16) (.t 17)),[]),(.f 19 0 18,[]),(.l 20 19,[]),(.m 21 0,[]),(.m 22 6,[]),(.z 23 (.ixAddr 3 (.t 21) (.t 22)),[]),(.f 24 1 23,[]),(.l 25 24,[]),(.z 26 (.build [(.i 0),(.i 0),(.bool false)] [(0,1,.t 20),(1,1,.c (.i 2)),(2,1,.t 25)]),[]),(.z 27 (.buildSl 3 1 [(.i 0),(.i 0),(.bool false)] [(0,3,.t 26)]),[(.l 25 24,false),(.l 20 19,false),(.l 15 14,false)]),(.z 28 (.appG 3 (.t 15) (.t 27)),[]),(.f 29 0 5,[]),(⟨none,none,.store 1 (.t 29) (.t 28)⟩,[])]) (.draw [(.f 30 1 5,[]),(.l 31 30,[]),(.m 32 6,[]),(.m 33 0,[]),(.m 34 6,[]),(.z 35 (.ixAddr 3 (.t 33) (.t 34)),[]),(.f 36 0 35,[]),(.l 37 36,[]),(.z 38 (.build [(.i 0),(.i 0),(.i 0)] [(0,1,.t 32),(2,1,.t 37)]),[]),(.z 39 (.buildSl 3 1 [(.i 0),(.i 0),(.i 0)] [(0,3,.t 38)]),[(.l 37 36,false),(.l 31 30,false)]),(.z 40 (.appG 3 (.t 31) (.t 39)),[]),(.f 41 1 5,[]),(⟨none,none,.store 1 (.t 41) (.t 40)⟩,[])]))) (.ops [.m 12 6,.z 13 (.bin .add true 3 (.t 12) (.c (.i 1))),.m 6 13])))))) (.seq (.seq (.ops [.z 7 (.move (.c (.i 0)))]) (.block 2 (.loop (.seq (.seq (.ops [.m 42 7,.z 43 (.bin .lss true 3 (.t 42) (.c (.i 2)))]) (.cond (.t 43) .skip (.exit 2))) (.seq (.block 3 (.seq (.ops [.f 46 0 5,.l 47 46,.m 48 1,.m 49 7,.z 50 (.bin .eql true 3 (.t 49) (.c (.i 1))),.z 51 (.build [(.i 0),(.i 0),(.bool false)] [(0,1,.t 48),(1,1,.c (.i 2)),(2,1,.t 50)]),.z 52 (.buildSl 3 1 [(.i 0),(.i 0),(.bool false)] [(0,3,.t 51)]),.z 53 (.appG 3 (.t 47) (.t 52)),.f 54 0 5,⟨none,none,.store 1 (.t 54) (.t 53)⟩]) (.ops [.m 55 7,.m 56 0,.z 57 (.lenSl (.t 56)),.m 58 7,.z 59 (.bin .add false 3 (.t 57) (.t 58)),.m 60 1,.z 61 (.build [(.i 0),(.i 0),(.i 0)] [(0,1,.t 59),(2,1,.t 60)]),.f 62 2 5,.z 63 (.ixAddrArr 2 3 (.t 62) (.t 55)),⟨none,none,.store 3 (.t 63) (.t 61)⟩]))) (.ops [.m 44 7,.z 45 (.bin .add true 3 (.t 44) (.c (.i 1))),.m 7 45])))))) (.seq (.ops [.z 64 (.loadN 8 (.t 5)),⟨none,none,.store 8 (.t 4) (.t 64)⟩]) .ret)))))
theorem r_kit_Plain:z0f Tryz.prog 19=some ⟨65,zbs.r,[.cellN 4 8]⟩:=by kernel_rfl
theorem k_kit_Plain:zbs.ok=true:=by kernel_rfl
def z5d:LC:=(.seq (.ops [.z 5 (.box (.t 1)),.z 6 (.box (.t 2)),.z 8 (.move (.c .nilSl)),.z 9 (.move (.c (.i 0)))]) (.seq (.seq (.draw [(.m 12 0,[]),(.z 13 (.loadN 7 (.t 5)),[]),(.z 14 (.loadN 8 (.t 6)),[]),(.m 15 3,[]),(.m 16 0,[]),(.z 17 (.loadN 7 (.t 5)),[]),(.z 18 (.callV (.c (.fn (.func 15) [] [])) [.t 16,.t 17]),[(.z 14 (.loadN 8 (.t 6)),false),(.z 13 (.loadN 7 (.t 5)),false)]),(.z 19 (.callV (.c (.fn (.func 58) [] [])) [.t 12,.t 13,.t 14,.t 15,.t 18]),[]),(.z 20 (.un .not (.t 19)),[])]) (.cond (.t 20) (.seq (.ops [.z 8 (.move (.c .nilSl)),.z 9 (.move (.c (.i 2)))]) .ret) .skip)) (.seq (.ops [.m 22 0,.z 23 (.loadN 7 (.t 5)),.z 24 (.loadN 8 (.t 6)),.z 25 (.callV (.c (.fn (.func 59) [] [])) [.t 22,.t 23,.t 24]),.m 21 25,.z 26 (.extract 0 (.t 21)),.z 27 (.extract 1 (.t 21)),.z 11 (.alloc [(.i 0),(.i 0),(.i 0)]),.m 10 26,⟨none,none,.store 3 (.t 11) (.t 27)⟩]) (.seq (.draw [(.f 28 1 6,[]),(.l 29 28,[]),(.f 30 1 5,[]),(.l 31 30,[]),(.z 32 (.ixAddr 3 (.t 29) (.t 31)),[]),(.z 33 (.loadN 3 (.t 32)),[]),(.f 34 1 6,[]),(.l 35 34,[]),(.f 36 3 5,[]),(.l 37 36,[]),(.z 38 (.ixAddr 3 (.t 35) (.t 37)),[]),(.z 39 (.loadN 3 (.t 38)),[]),(.f 40 1 6,[]),(.l 41 40,[]),(.f 42 4 5,[]),(.l 43 42,[]),(.z 44 (.ixAddr 3 (.t 41) (.t 43)),[]),(.z 45 (.loadN 3 (.t 44)),[]),(.f 46 1 6,[]),(.l 47 46,[]),(.f 48 5 5,[]),(.l 49 48,[]),(.z 50 (.ixAddr 3 (.t 47) (.t 49)),[]),(.z 51 (.loadN 3 (.t 50)),[]),(.z 52 (.loadN 3 (.t 11)),[]),(.m 53 3,[]),(.m 54 10,[]),(.z 55 (.callV (.c (.fn (.func 23) [] [])) [.t 33,.t 39,.t 45,.t 51,.t 52,.t 53,.t 54]),[]),(.m 8 55,[]),(.z 9 (.move (.c (.i 0))),[])]) .ret))))
theorem r_montgomery_Code:z0f Tryz.prog 18=some ⟨56,z5d.r,[.tmp 8,.tmp 9]⟩:=by kernel_rfl
theorem k_montgomery_Code:z5d.ok=true:=by kernel_rfl
def z9z:LC:=(.seq (.ops [.z 2 (.box (.t 0)),.z 4 (.move (.c .nilSl))]) (.seq (.ops [.z 5 (.move (.c .nilSl))]) (.seq (.seq (.ops [.z 6 (.move (.c (.i 0)))]) (.block 0 (.loop (.seq (.seq (.ops [.m 7 6,.f 8 0 2,.l 9 8,.z 10 (.lenSl (.t 9)),.z 11 (.bin .lss false 3 (.t 7) (.t 10))]) (.cond (.t 11) .skip (.exit 0))) (.seq (.block 1 (.draw [(.m 14 5,[]),(.z 15 (.buildSl 1 0 [] []),[]),(.m 16 1,[]),(.m 18 6,[]),(.z 19 (.cvInt .u64 (.t 18)),[]),(.z 20 (.bin .mul true 23 (.t 19) (.c (.u 1234567891011))),[]),(.z 21 (.buildSl 1 1 [(.u 0)] [(0,1,.t 20)]),[(.z 15 (.buildSl 1 0 [] []),true)]),(.f 23 0 2,[]),(.l 24 23,[]),(.m 25 6,[]),(.z 26 (.ixAddr 3 (.t 24) (.t 25)),[]),(.f 27 0 26,[]),(.l 28 27,[]),(.z 17 (.appG 1 (.t 15) (.t 16)),[(.l 28 27,false),(.l 24 23,false),(.z 21 (.buildSl 1 1 [(.u 0)] [(0,1,.t 20)]),true)]),(.z 22 (.appG 1 (.t 17) (.t 21)),[(.l 28 27,false),(.l 24 23,false)]),(.z 29 (.callV (.c (.fn (.func 26) [] [])) [.t 22,.t 28]),[]),(.z 30 (.buildSl 1 1 [.nilSl] [(0,1,.t 29)]),[]),(.z 31 (.appG 1 (.t 14) (.t 30)),[]),(.m 5 31,[])])) (.ops [.m 12 6,.z 13 (.bin .add true 3 (.t 12) (.c (.i 1))),.m 6 13])))))) (.seq (.ops [.m 32 5,.m 4 32]) .ret))))
theorem r_law23_rows:z0f Tryz.prog 62=some ⟨33,z9z.r,[.tmp 4]⟩:=by kernel_rfl
theorem k_law23_rows:z9z.ok=true:=by kernel_rfl
def z4r (vs:List Vr):List Bf:=vs.map fun v=>⟨v.limbs,2,v.sec⟩
def zdl (vs:List Vr):List Pc:=(List.range vs.length).map fun i:Nat=>⟨(i:Int),0,(gv vs i).limbs⟩
theorem zki (n:Int) (b:Bool):FnV Tryz.prog 35 [.i n,.bool b] (.lst (vsC [⟨n,b,0⟩,⟨n,b,0⟩,⟨n,b,0⟩,⟨n,b,0⟩]) 4 3):=by
 refine FnV.mk (by simp[LV.dat,z1f]) (z01 r_law23_four k_law23_four (by simp) ?_)
 simp[z9s,vsC,Vr.f]
def moO:Ko:=⟨12,3,-1,0,1,2,0⟩
theorem law23_mont_ok:FnS Tryz.prog 36 [] (.agg moO.f) []:=by
 refine FnS.val rfl (z01 r_law23_mont k_law23_mont (by simp) ?_)
 simp[zai,moO,Ko.f]
theorem zp2 {vs:List Vr} {i:Nat} (h:i < vs.length):z4r (vs.take (i+1))=z4r (vs.take i)++[⟨(gv vs i).limbs,2,(gv vs i).sec⟩]:=by
 have hg:=zbw h
 obtain⟨_,e⟩:=List.getElem?_eq_some_iff.1 hg
 rw[List.take_succ_eq_append_getElem h,z4r,List.map_append,e]; rfl
def psTo (vs:List Vr) (i:Nat):List Pc:=(List.range i).map fun i:Nat=>⟨(i:Int),0,(gv vs i).limbs⟩
theorem zwe (vs:List Vr) (i:Nat):psTo vs (i+1)=psTo vs i++[⟨(i:Int),0,(gv vs i).limbs⟩]:=by simp[psTo,List.range_succ]
theorem pcC_app (a b:List Pc):pcC (a++b)=pcC a++pcC b:=by simp[pcC]
def wkC (n w:Int):Nat→List LV
 | 0=>[.i 0,.i 0,.i 0,.i 0,.i 0,.i 0]
 | 1=>[.i n,.i 0,.i w,.i 0,.i 0,.i 0]
 | _=>[.i n,.i 0,.i w,.i (n+1),.i 0,.i w]
def wkB (w:Int):Nat→List Bf
 | 0=>[]
 | 1=>[⟨w,2,false⟩]
 | _=>[⟨w,2,false⟩,⟨w,2,true⟩]
theorem zl1 (vs:List Vr) (w:Int) (hl:vs.length≤1000000):FnV Tryz.prog 19 [.lst (vsC vs) vs.length 3,.i w] (.agg (plV (z4r vs++[⟨w,2,false⟩,⟨w,2,true⟩]) (zdl vs) ⟨vs.length,0,w⟩ ⟨(vs.length:Int)+1,0,w⟩)):=by
 refine FnV.mk (by simp[LV.dat,zao]) (z01 r_kit_Plain k_kit_Plain (by simp) ?_)
 simp[zbs]
 refine z0m (fun ρ D G N=>∃ (i st s0:Nat) (v1 v2:LV),D=[]∧N+i=vs.length∧lk ρ 0=.lst (vsC vs) vs.length 3∧lk ρ 1=.i w∧lk ρ 4=.ptr 0 0∧lk ρ 5=.ptr 1 0∧lk ρ 6=.i i∧2≤G.length ∧
   G[0]?=some (.cells [.nilSl,.nilSl,.i 0,.i 0,.i 0,.i 0,.i 0,.i 0] s0)∧G[1]?=some (.cells [v1,v2,.i 0,.i 0,.i 0,.i 0,.i 0,.i 0] st) ∧
   DyS 2 G v1 3 i (bfC (z4r (vs.take i)))∧DyS 2 G v2 3 i (pcC (psTo vs i))∧∀ q j q' j',v1=.dy q j→v2=.dy q' j'→q≠q') (N:=vs.length)
  ⟨0,0,0,.nilSl,.nilSl,rfl,by omega,by simp,by simp,by simp,by simp,by simp,by simp,by simp,by simp,by simpa [z4r,bfC] using DyS.nil,by simpa [psTo,pcC] using DyS.nil,fun q j q' j' e=>by cases e⟩ ?_
 rintro N ρ D G ⟨i,st,s0,v1,v2,rfl,hN,h0,h1,h4,h5,h6,hG2,hG0,hG1,hD1,hD2,hsep⟩ Nx hNx
 by_cases g:i < vs.length
 ·have q0:=zqf (zbw g)
  have q1:=zw1 (zbw g)
  have hq:=zsl g
  have l1:1 < G.length:=by omega
  have p1:∀ x:List LObj,(G++x)[1]?=_:=fun x=>(oldP l1).trans hG1
  have p0:∀ x:List LObj,(G++x)[0]?=_:=fun x=>(oldP (by omega)).trans hG0
  simp[h0,h5,h6,hG1,↓p1,g,z05 q0,z05 q1]
  have D1:=hD1.push_end (ob:=[LObj.dyn [.i (gv vs i).limbs,.i 2,.bool (gv vs i).sec] 1 3 0 0])
  have D2:=hD2.push_end (ob:=[LObj.dyn [.i (gv vs i).limbs,.i 2,.bool (gv vs i).sec] 1 3 0 0])
  have m0:=p0 [LObj.dyn [.i (gv vs i).limbs,.i 2,.bool (gv vs i).sec] 1 3 0 0]
  have m1:=p1 [LObj.dyn [.i (gv vs i).limbs,.i 2,.bool (gv vs i).sec] 1 3 0 0]
  have ml:(G++[LObj.dyn [.i (gv vs i).limbs,.i 2,.bool (gv vs i).sec] 1 3 0 0]).length=G.length+1:=by simp
  have hlt2:=fun q j (e:v2=.dy q j)=>(hD2.lt e).2
  generalize G++[LObj.dyn [.i (gv vs i).limbs,.i 2,.bool (gv vs i).sec] 1 3 0 0]=GA at *
  refine D1.push2 (c:=1) (x:=(⟨(gv vs i).limbs,2,(gv vs i).sec⟩:Bf).f) (by omega) (by omega) (by omega) rfl rfl fun v1' G1 D1' f1 gl1 s1 lt1=>?_
  have n1:∀ q,q < 2→∀ j,v1≠.dy q j:=fun q hq j e=>by have:=(D1.lt e).1; omega
  have n2:∀ q,q < 2→∀ j,v2≠.dy q j:=fun q hq j e=>by have:=(D2.lt e).1; omega
  have g10:=(f1 0 (by omega) (n1 0 (by omega))).trans m0
  have g11:=(f1 1 (by omega) (n1 1 (by omega))).trans m1
  have D2b:=D2.keep (G':=G1) (fun q j e=>f1 q (D2.lt e).2 (fun j' e'=>hsep q j' q j e' e rfl))
  have sep1:∀ q j q' j',v1'=.dy q j→v2=.dy q' j'→q≠q':=fun q j q' j' e e'=>by
   rcases s1 q j e with h | ⟨j2,h⟩
   ·have:=hlt2 q' j' e'; omega
   ·exact hsep q j2 q' j' h e'
  have hc1:=D1'.cells
  have hc2:=D2.cells
  simp[-LV.cells,h0,h5,h6,g11,hc1]
  have D1c:=D1'.set_lt (q:=1) (ob:=.cells [v1',v2,.i 0,.i 0,.i 0,.i 0,.i 0,.i 0] (st+1)) (by omega)
  have D2c:=D2b.set_lt (q:=1) (ob:=.cells [v1',v2,.i 0,.i 0,.i 0,.i 0,.i 0,.i 0] (st+1)) (by omega)
  have k0:(G1.set 1 (.cells [v1',v2,.i 0,.i 0,.i 0,.i 0,.i 0,.i 0] (st+1)))[0]?=_:=(List.getElem?_set_ne (by omega)).trans g10
  have k1:(G1.set 1 (.cells [v1',v2,.i 0,.i 0,.i 0,.i 0,.i 0,.i 0] (st+1)))[1]?=_:=List.getElem?_set_self (by omega)
  have kl:(G1.set 1 (.cells [v1',v2,.i 0,.i 0,.i 0,.i 0,.i 0,.i 0] (st+1))).length=G1.length:=by simp
  generalize G1.set 1 (.cells [v1',v2,.i 0,.i 0,.i 0,.i 0,.i 0,.i 0] (st+1))=G2 at *
  have r1:∀ x:List LObj,(G2++x)[1]?=_:=fun x=>(oldP (by omega)).trans k1
  have r0:∀ x:List LObj,(G2++x)[0]?=_:=fun x=>(oldP (by omega)).trans k0
  simp[h0,h5,h6,k1,↓r1,g,z05 q0]
  have E1:=D1c.push_end (ob:=[LObj.dyn [.i (i:Int),.i 0,.i (gv vs i).limbs] 1 3 0 0])
  have E2:=D2c.push_end (ob:=[LObj.dyn [.i (i:Int),.i 0,.i (gv vs i).limbs] 1 3 0 0])
  have w0:=r0 [LObj.dyn [.i (i:Int),.i 0,.i (gv vs i).limbs] 1 3 0 0]
  have w1:=r1 [LObj.dyn [.i (i:Int),.i 0,.i (gv vs i).limbs] 1 3 0 0]
  have wl:(G2++[LObj.dyn [.i (i:Int),.i 0,.i (gv vs i).limbs] 1 3 0 0]).length=G2.length+1:=by simp
  have hlt1:=fun q j (e:v1'=.dy q j)=>(D1c.lt e).2
  generalize G2++[LObj.dyn [.i (i:Int),.i 0,.i (gv vs i).limbs] 1 3 0 0]=GB at *
  refine E2.push2 (c:=1) (x:=(⟨(i:Int),0,(gv vs i).limbs⟩:Pc).f) (by omega) (by omega) (by omega) rfl rfl fun v2' G3 E2' f2 gl2 s2 lt2=>?_
  have g30:=(f2 0 (by omega) (n2 0 (by omega))).trans w0
  have g31:=(f2 1 (by omega) (n2 1 (by omega))).trans w1
  have E1b:=E1.keep (G':=G3) (fun q j e=>f2 q (E1.lt e).2 (fun j' e'=>sep1 q j q j' e e' rfl))
  have sep2:∀ q j q' j',v1'=.dy q j→v2'=.dy q' j'→q≠q':=fun q j q' j' e e'=>by
   rcases s2 q' j' e' with h | ⟨j2,h⟩
   ·have:=hlt1 q j e; omega
   ·exact sep1 q j q' j2 e h
  have hd2:=E2'.cells
  simp[-LV.cells,h0,h5,h6,g31,hd2]
  refine⟨by omega,hNx _ _ _ ⟨N - 1,by omega,i+1,st+1+1,s0,v1',v2',rfl,by omega,by simp[h0],by simp[h1],by simp[h4],by simp[h5],by simp,by simp; omega,?_,?_,?_,?_,sep2⟩⟩
  ·rw[List.getElem?_set_ne (by omega)]; exact g30
  ·rw[List.getElem?_set_self (by omega)]
  ·rw[zp2 g,bfC_app]
   exact E1b.set_lt (by omega)
  ·rw[zwe,pcC_app]
   exact E2'.set_lt (by omega)
 ·have gi:i=vs.length:=by omega
  subst gi
  simp[h0,h1,h4,h5,h6,hG1]
  refine z0m (fun ρ D G N=>∃ (j st s0:Nat) (v1 v2:LV),D=[]∧N+j=2∧lk ρ 0=.lst (vsC vs) vs.length 3∧lk ρ 1=.i w∧lk ρ 4=.ptr 0 0∧lk ρ 5=.ptr 1 0∧lk ρ 7=.i j∧2≤G.length ∧
    G[0]?=some (.cells [.nilSl,.nilSl,.i 0,.i 0,.i 0,.i 0,.i 0,.i 0] s0)∧G[1]?=some (.cells (v1::v2::wkC vs.length w j) st) ∧
    DyS 2 G v1 3 (vs.length+j) (bfC (z4r vs++wkB w j))∧DyS 2 G v2 3 vs.length (pcC (zdl vs))∧∀ q j q' j',v1=.dy q j→v2=.dy q' j'→q≠q') (N:=2)
   ⟨0,st,s0,v1,v2,rfl,by omega,by simp[h0],by simp[h1],by simp[h4],by simp[h5],by simp,hG2,hG0,hG1,by simpa [wkB] using hD1,hD2,hsep⟩ ?_
  clear h0 h1 h4 h5 h6 hG2 hG0 hG1 hD1 hD2 hsep g hNx Nx
  rintro N ρ D G ⟨j,st,s0,v1,v2,rfl,hN2,h0,h1,h4,h5,h7,hG2,hG0,hG1,hD1,hD2,hsep⟩ Nx hNx
  have p1:∀ x:List LObj,(G++x)[1]?=_:=fun x=>(oldP (by omega)).trans hG1
  have p0:∀ x:List LObj,(G++x)[0]?=_:=fun x=>(oldP (by omega)).trans hG0
  have hj:j=0∨j=1∨j=2:=by omega
  rcases hj with rfl | rfl | rfl
  ·have D1:=hD1.push_end (ob:=[LObj.dyn [.i w,.i 2,.bool false] 1 3 0 0])
   have D2:=hD2.push_end (ob:=[LObj.dyn [.i w,.i 2,.bool false] 1 3 0 0])
   simp[h0,h1,h4,h5,h7,hG1,↓p1,wkC]
   have m0:=p0 [LObj.dyn [.i w,.i 2,.bool false] 1 3 0 0]
   have m1:=p1 [LObj.dyn [.i w,.i 2,.bool false] 1 3 0 0]
   have ml:(G++[LObj.dyn [.i w,.i 2,.bool false] 1 3 0 0]).length=G.length+1:=by simp
   have hlt2:=fun q j (e:v2=.dy q j)=>(hD2.lt e).2
   generalize G++[LObj.dyn [.i w,.i 2,.bool false] 1 3 0 0]=GA at *
   refine D1.push2 (c:=1) (x:=(⟨w,2,false⟩:Bf).f) (by omega) (by omega) (by omega) rfl rfl fun v1' G1 D1' f1 gl1 s1 lt1=>?_
   have n1:∀ q,q < 2→∀ j,v1≠.dy q j:=fun q hq j e=>by have:=(D1.lt e).1; omega
   have g10:=(f1 0 (by omega) (n1 0 (by omega))).trans m0
   have g11:=(f1 1 (by omega) (n1 1 (by omega))).trans m1
   have D2b:=D2.keep (G':=G1) (fun q j e=>f1 q (D2.lt e).2 (fun j' e'=>hsep q j' q j e' e rfl))
   have sep1:∀ q j q' j',v1'=.dy q j→v2=.dy q' j'→q≠q':=fun q j q' j' e e'=>by
    rcases s1 q j e with h | ⟨j2,h⟩
    ·have:=hlt2 q' j' e'; omega
    ·exact hsep q j2 q' j' h e'
   have hc1:=D1'.cells
   have hc2:=D2.cells
   have x1:∀ x,(G1.set 1 x)[1]?=some x:=fun x=>List.getElem?_set_self (by omega)
   simp[-LV.cells,h0,h1,h4,h5,h7,g11,hc1,↓x1,wkC]
   simp[z0w]
   repeat (refine⟨by omega,?_⟩)
   refine hNx _ _ _ ⟨N - 1,by omega,0+1,st+1+1,s0,v1',v2,rfl,by omega,by simp[h0],by simp[h1],by simp[h4],by simp[h5],by simp,by simp; omega,?_,?_,?_,?_,sep1⟩
   ·rw[List.getElem?_set_ne (by omega)]; exact g10
   ·rw[List.getElem?_set_self (by omega)]; simp[wkC]
   ·have hW:bfC (z4r vs++wkB w (0+1))=bfC (z4r vs++wkB w 0)++(⟨w,2,false⟩:Bf).f:=by simp[bfC,wkB]
    rw[hW]
    exact D1'.set_lt (by omega)
   ·exact D2b.set_lt (by omega)
  ·have D1:=hD1.push_end (ob:=[LObj.dyn [.i w,.i 2,.bool true] 1 3 0 0])
   have D2:=hD2.push_end (ob:=[LObj.dyn [.i w,.i 2,.bool true] 1 3 0 0])
   simp[h0,h1,h4,h5,h7,hG1,↓p1,wkC]
   have m0:=p0 [LObj.dyn [.i w,.i 2,.bool true] 1 3 0 0]
   have m1:=p1 [LObj.dyn [.i w,.i 2,.bool true] 1 3 0 0]
   have ml:(G++[LObj.dyn [.i w,.i 2,.bool true] 1 3 0 0]).length=G.length+1:=by simp
   have hlt2:=fun q j (e:v2=.dy q j)=>(hD2.lt e).2
   generalize G++[LObj.dyn [.i w,.i 2,.bool true] 1 3 0 0]=GA at *
   refine D1.push2 (c:=1) (x:=(⟨w,2,true⟩:Bf).f) (by omega) (by omega) (by omega) rfl rfl fun v1' G1 D1' f1 gl1 s1 lt1=>?_
   have n1:∀ q,q < 2→∀ j,v1≠.dy q j:=fun q hq j e=>by have:=(D1.lt e).1; omega
   have g10:=(f1 0 (by omega) (n1 0 (by omega))).trans m0
   have g11:=(f1 1 (by omega) (n1 1 (by omega))).trans m1
   have D2b:=D2.keep (G':=G1) (fun q j e=>f1 q (D2.lt e).2 (fun j' e'=>hsep q j' q j e' e rfl))
   have sep1:∀ q j q' j',v1'=.dy q j→v2=.dy q' j'→q≠q':=fun q j q' j' e e'=>by
    rcases s1 q j e with h | ⟨j2,h⟩
    ·have:=hlt2 q' j' e'; omega
    ·exact hsep q j2 q' j' h e'
   have hc1:=D1'.cells
   have hc2:=D2.cells
   have x1:∀ x,(G1.set 1 x)[1]?=some x:=fun x=>List.getElem?_set_self (by omega)
   simp[-LV.cells,h0,h1,h4,h5,h7,g11,hc1,↓x1,wkC]
   simp[z0w]
   repeat (refine⟨by omega,?_⟩)
   refine hNx _ _ _ ⟨N - 1,by omega,1+1,st+1+1,s0,v1',v2,rfl,by omega,by simp[h0],by simp[h1],by simp[h4],by simp[h5],by simp,by simp; omega,?_,?_,?_,?_,sep1⟩
   ·rw[List.getElem?_set_ne (by omega)]; exact g10
   ·rw[List.getElem?_set_self (by omega)]; simp[wkC]
   ·have hW:bfC (z4r vs++wkB w (1+1))=bfC (z4r vs++wkB w 1)++(⟨w,2,true⟩:Bf).f:=by simp[bfC,wkB]
    rw[hW]
    exact D1'.set_lt (by omega)
   ·exact D2b.set_lt (by omega)
  ·have hd1:=hD1.bor
   have hd2:=hD2.bor
   have y0:∀ x,(G.set 0 x)[0]?=some x:=fun x=>List.getElem?_set_self (by omega)
   simp[h0,h1,h4,h5,h7,hG0,hG1,wkC,↓y0]
   have b1:=(hD1.set_lt (q:=0) (ob:=.cells [v1,v2,.i vs.length,.i 0,.i w,.i (vs.length+1),.i 0,.i w] (s0+1)) (by omega)).bor
   have b2:=(hD2.set_lt (q:=0) (ob:=.cells [v1,v2,.i vs.length,.i 0,.i w,.i (vs.length+1),.i 0,.i w] (s0+1)) (by omega)).bor
   refine⟨_,_,rfl,?_,_,rfl,?_⟩
   ·have e1:(z4r vs++[(⟨w,2,false⟩:Bf),⟨w,2,true⟩]).length=vs.length+2:=by simp[z4r]
    rw[e1]; exact b1
   ·have e2:(zdl vs).length=vs.length:=by simp[zdl]
    rw[e2]; exact b2
def vs4 (k:Nat):List Vr:=[⟨(k:Int)+1,true,0⟩,⟨(k:Int)+1,true,0⟩,⟨(k:Int)+1,true,0⟩,⟨(k:Int)+1,true,0⟩]
def ps4 (k:Nat):List Pc:=[(pnM k 0).p,(pnM k 1).p,(pnM k 2).p,(pnM k 3).p]
def wPl (k b:Nat):Pc:=⟨b,0,(k:Int)+3⟩
theorem six {P:Nat→Prop} {k:Nat} (hk:k≤5) (h0:P 0) (h1:P 1) (h2:P 2) (h3:P 3) (h4:P 4) (h5:P 5):P k:=by
 have h:k=0∨k=1∨k=2∨k=3∨k=4∨k=5:=by omega
 rcases h with rfl | rfl | rfl | rfl | rfl | rfl <;> assumption
theorem planM {k:Nat} (hk:k≤5):zen (vs4 k) (bsM k) (ps4 k) (wPl k 4) (wPl k 5)=true:=by
 refine six (P:=fun k=>zen (vs4 k) (bsM k) (ps4 k) (wPl k 4) (wPl k 5)=true) hk ?_ ?_ ?_ ?_ ?_ ?_ <;> decide +kernel
theorem workM4 {k:Nat} (hk:k≤5):zro (vs4 k) moO=(k:Int)+3:=by
 refine six (P:=fun k=>zro (vs4 k) moO=(k:Int)+3) hk ?_ ?_ ?_ ?_ ?_ ?_ <;> decide +kernel
theorem plainM (k:Nat):z4r (vs4 k)++[⟨(k:Int)+3,2,false⟩,⟨(k:Int)+3,2,true⟩]=bsM k:=rfl
theorem plainPM (k:Nat):zdl (vs4 k)=ps4 k:=by simp[zdl,vs4,ps4,List.range_succ,gv,pnM,Pn.p]
theorem intoC_M {k:Nat} (hk:k≤5):zng (pnM k 3).p (pnM k 0).p (pnM k 1).p (pnM k 2).p (wPl k 5) 0 40=(z9m k).flat:=by
 have h1:zce ((k+1:Nat):Int)=((k+3:Nat):Int):=by unfold zce; rw[if_neg (by omega)]; omega
 have h2:za7 (pnM k 3).p (pnM k 0).p (pnM k 1).p (pnM k 2).p (wPl k 5) 0 40=true:=by
  have h1':zce ((k:Int)+1)=k+3:=by unfold zce; rw[if_neg (by omega)]; omega
  simp[za7,pnM,wPl,Pn.p,h1',ziw]
  exact decide_eq_true (by omega)
 unfold zng
 rw[if_pos h2]
 show (zhf _ _ _ _ ⟨(wPl k 5).buf,(wPl k 5).at_,zce ((k+1:Nat):Int)⟩ _ _ _).flat=_
 rw[h1]
 rfl
theorem Public_M {k:Nat}:FnS Tryz.prog 126 [.lst (vsC (vs4 k)) 4 3,.agg moO.f] (.bool false) []:=by
 refine FnS.val rfl (z01 r_expand_Public k_expand_Public (by simp) ?_)
 simp[z79,Ko.f,moO,vs4,vsC,Vr.f]
theorem Base_M {k:Nat} (bs:List Bf) (ps:List Pc) (w0 w1:Pc):FnS Tryz.prog 59 [.lst (vsC (vs4 k)) 4 3,.agg moO.f,.agg (plV bs ps w0 w1)] (.tup [.i 40,.agg w1.f]) []:=by
 refine FnS.val rfl (z01 r_expand_Base k_expand_Base (by simp) ?_)
 have hf:moO.f=[.i 12,.i 3,.i (-1),.i 0,.i 1,.i 2,.u 0]:=rfl
 simp[z8p,hf]
 rw[←hf]
 refine z02 (Public_M (k:=k)) (bors_self _ (by simp[dats,LV.dat,z1f,hf])) ?_
 simp[plV,Pc.f]
theorem Ready_M {k:Nat} (hk:k≤5):FnS Tryz.prog 58 [.lst (vsC (vs4 k)) 4 3,.agg moO.f,.agg (plV (bsM k) (ps4 k) (wPl k 4) (wPl k 5)),.i 0,.i ((k:Int)+3)] (.bool true) []:=by
 refine FnS.val rfl (z01 r_expand_Ready k_expand_Ready (by simp) ?_)
 have hf:moO.f=[.i 12,.i 3,.i (-1),.i 0,.i 1,.i 2,.u 0]:=rfl
 have hpl:plV (bsM k) (ps4 k) (wPl k 4) (wPl k 5)=[.lst (bfC (bsM k)) (bsM k).length 3,.lst (pcC (ps4 k)) (ps4 k).length 3,.i (wPl k 4).buf,.i (wPl k 4).at_,.i (wPl k 4).size,.i (wPl k 5).buf,.i (wPl k 5).at_,.i (wPl k 5).size]:=rfl
 have hpe:zk5 (vs4 k) (bsM k) (ps4 k) (wPl k 4) (wPl k 5)=0:=by rw[zk5,if_pos (planM hk)]
 have hC:=zfk (vs4 k) (bsM k) (ps4 k) (wPl k 4) (wPl k 5) (by simp[vs4]) (by simp[bsM])
 rw[hpe] at hC
 have g1:¬ (k:Int)+3 < 1:=by omega
 simp[z7y,hpl,hf]
 rw[←hpl]
 refine z02 hC (bors_self _ (by simp[dats,LV.dat,z1f,zao])) ?_
 simp[g1,hpl]
 rw[←hf,←hpl]
 refine z02 (Base_M (k:=k) (bsM k) (ps4 k) (wPl k 4) (wPl k 5)) (bors_self _ (by simp[dats,LV.dat,z1f,zao,hf])) ?_
 simp[wPl,Pc.f]
theorem Code_M {k:Nat} (hk:k≤5):FnV Tryz.prog 18 [.lst (vsC (vs4 k)) 4 3,.agg moO.f,.agg (plV (bsM k) (ps4 k) (wPl k 4) (wPl k 5)),.i 0] (.tup [.lst (loC (z9m k).flat) (z9m k).flat.length 8,.i 0]):=by
 refine FnV.mk (by simp[dats,LV.dat,z0s]) (z01 r_montgomery_Code k_montgomery_Code (by simp) ?_)
 have hf:moO.f=[.i 12,.i 3,.i (-1),.i 0,.i 1,.i 2,.u 0]:=rfl
 have hpl:plV (bsM k) (ps4 k) (wPl k 4) (wPl k 5)=[.lst (bfC (bsM k)) (bsM k).length 3,.lst (pcC (ps4 k)) (ps4 k).length 3,.i (wPl k 4).buf,.i (wPl k 4).at_,.i (wPl k 4).size,.i (wPl k 5).buf,.i (wPl k 5).at_,.i (wPl k 5).size]:=rfl
 have hW:=z7d (vs4 k) moO (by simp[vs4])
 rw[workM4 hk] at hW
 simp[z5d,hpl,hf]
 rw[←hf]
 refine z02 hW (bors_self _ (by simp[dats,LV.dat,z1f,hf])) ?_
 simp[hpl,hf]
 rw[←hf,←hpl]
 refine z02 (Ready_M hk) (bors_self _ (by simp[dats,LV.dat,z1f,zao,hf])) ?_
 simp[hpl,hf]
 rw[←hf,←hpl]
 refine z02 (Base_M (k:=k) (bsM k) (ps4 k) (wPl k 4) (wPl k 5)) (bors_self _ (by simp[dats,LV.dat,z1f,zao,hf])) ?_
 simp[hpl,hf,Pc.f]
 have hp4:(ps4 k).length=4:=rfl
 have hp12:(pcC (ps4 k)).length=12:=rfl
 rw[hp4,hp12]
 refine⟨by omega,by omega,by omega,by omega,by omega,by omega,by omega,by omega,?_⟩
 have hI:=zcj (d:=(pnM k 3).p) (a:=(pnM k 0).p) (b:=(pnM k 1).p) (n:=(pnM k 2).p) (w:=wPl k 5) (deep:=0) (R:=40) (by simp[pnM,Pn.p]) (by simp[pnM,Pn.p]) (by simp[pnM,Pn.p]) (by simp[pnM,Pn.p]) (by simp[wPl]) (by simp[pnM,Pn.p]; omega)
 rw[intoC_M hk] at hI
 refine z1p hI (by simp[dats,LV.dat]; exact⟨rfl,rfl,rfl,rfl⟩) ?_
 simp
 exact z0s _
theorem rows_any {bs:List Bf} {Pl:LV} {w1 w2 w3 w4 w5 w6:Int} {fill:List UInt64} {G0:z03} {K:LV→z03→Prop} (hs:∀ b∈bs,0≤b.size∧b.size≤1000000) (hb:bs.length≤1000) (hfl:fill.length≤1000)
  (kk:∀ (X:List (List UInt64)) (p ver st:Nat) (G':z03),X.length=bs.length→(∀ i,i < bs.length→((X.getD i []).length:Int)=(gbf bs i).size)→(∀ q,q < G0.length→G'[q]?=G0[q]?)→G0.length≤p→G0.length≤G'.length→bs≠[]→G'[p]?=some (.dyn (X.map LU) X.length 1 ver st)→K (.dy p ver) G') (hne:bs≠[]) :
  z0k Tryz.prog (.fn 62) [.agg [.lst (bfC bs) bs.length 3,Pl,.i w1,.i w2,.i w3,.i w4,.i w5,.i w6],.lst (fill.map .u) fill.length 1] G0 K:=by
 refine z01 r_law23_rows k_law23_rows (by simp) ?_
 simp[z9z]
 refine z0m (fun ρ D G N=>∃ (i s0:Nat) (v:LV) (X:List (List UInt64)),D=[]∧N+i=bs.length∧lk ρ 1=.lst (fill.map .u) fill.length 1∧lk ρ 2=.ptr G0.length 0∧lk ρ 5=v∧lk ρ 6=.i i∧G0.length < G.length∧(∀ q,q < G0.length→G[q]?=G0[q]?) ∧
   G[G0.length]?=some (.cells [.lst (bfC bs) bs.length 3,Pl,.i w1,.i w2,.i w3,.i w4,.i w5,.i w6] s0)∧X.length=i∧(∀ j,j < i→((X.getD j []).length:Int)=(gbf bs j).size)∧DyS (G0.length+1) G v 1 i (X.map LU)) (N:=bs.length)
  ⟨0,0,.nilSl,[],rfl,by omega,by simp,by simp,by simp,by simp,by simp,fun q hq=>List.getElem?_append_left hq,by simp,rfl,fun j h=>by omega,DyS.nil⟩ ?_
 rintro N ρ D G ⟨i,s0,v,X,rfl,hN,h1,h2,h5,h6,hGl,hGo,hGp,hXl,hX,hD⟩ Nx hNx
 by_cases g:i < bs.length
 ·have q0:=zbi (z33 g)
  have hq:=zho g
  have hz:=hs _ (List.mem_of_getElem? (z33 g))
  have pp:∀ x:List LObj,(G++x)[G0.length]?=_:=fun x=>(oldP hGl).trans hGp
  simp[h1,h2,h5,h6,hGp,↓pp,g,z05 q0]
  refine⟨by omega,by omega,?_⟩
  obtain⟨z,hz'⟩:=Int.eq_ofNat_of_zero_le hz.1
  rw[hz']
  generalize mulU (iU ↑i) 1234567891011=xx
  have o1:(G++[LObj.dyn (fill.map .u++[.u xx]) (fill.length+1) 1 2 2,LObj.dyn [.u xx] 1 1 0 0])[G.length]?=some (.dyn ((fill++[xx]).map .u) (fill++[xx]).length 1 2 2):=by
   rw[List.getElem?_append_right (Nat.le_refl _),Nat.sub_self]; simp
  have o2:=fun q (hq:q < G.length)=>(oldP (x:=[LObj.dyn (fill.map .u++[.u xx]) (fill.length+1) 1 2 2,LObj.dyn [.u xx] 1 1 0 0]) hq)
  have o3:=hD.push_end (ob:=[LObj.dyn (fill.map .u++[.u xx]) (fill.length+1) 1 2 2,LObj.dyn [.u xx] 1 1 0 0])
  have o4:(G++[LObj.dyn (fill.map .u++[.u xx]) (fill.length+1) 1 2 2,LObj.dyn [.u xx] 1 1 0 0]).length=G.length+2:=by simp
  generalize G++[LObj.dyn (fill.map .u++[.u xx]) (fill.length+1) 1 2 2,LObj.dyn [.u xx] 1 1 0 0]=GA at *
  refine z02 (z8r (fill++[xx]) z (by omega) (by simp; omega) (by simp)) ⟨_,_,rfl,⟨_,_,_,_,rfl,o1,z8b _⟩,_,_,rfl,⟨rfl,rfl⟩,rfl⟩ ?_
  have hfl':=z8c (fill++[xx]) z
  generalize zdb (fill++[xx]) z=F at *
  simp[RU]
  refine DyS.push (c:=1) (x:=[LU F]) (o3.push_end) (by omega) (by simp; omega) (by omega) rfl (by simp[dats,LV.dat,z8b]) fun v' G' hD' hf' hl'=>?_
  simp at hl'
  simp[h6]
  refine⟨by omega,hNx _ _ _ ⟨N - 1,by omega,i+1,s0,v',X++[F],rfl,by omega,by simp[h1],by simp[h2],by simp,by simp,by omega,?_,?_,by simp[hXl],?_,?_⟩⟩
  ·intro q hq
   rw[hf' q (by omega),oldP (by omega),o2 q (by omega)]; exact hGo q hq
  ·rw[hf' _ (by omega),oldP (by omega),o2 _ hGl]; exact hGp
  ·intro j hj
   by_cases e:j=i
   ·subst e
    rw[List.getD_eq_getElem?_getD,←hXl,List.getElem?_concat_length,hXl,hz']
    simp[hfl']
   ·rw[List.getD_eq_getElem?_getD,List.getElem?_append_left (by omega),←List.getD_eq_getElem?_getD]
    exact hX j (by omega)
  ·rw[List.map_append]; exact hD'
 ·have gi:i=bs.length:=by omega
  subst gi
  obtain⟨_,_,⟨_,e0,_⟩ | ⟨p,ver,st,hp,rfl,hGpp⟩⟩:=hD
  ·exact absurd (List.eq_nil_of_length_eq_zero e0) hne
  simp[h2,h5,h6,hGp]
  exact kk X p ver st G hXl (fun i hi=>hX i hi) hGo (by omega) (by omega) hne (by rw[hXl]; exact hGpp)
end Go.Proofs.YtodjkjimaheggaaGreat
