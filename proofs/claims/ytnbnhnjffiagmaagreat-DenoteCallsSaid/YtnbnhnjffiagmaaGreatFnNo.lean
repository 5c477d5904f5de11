/- Chapter 20, the document's: what is needed, whether it holds, of any rows. -/
import Derived.Test.YtnbnhnjffiagmaaGreatFnNk
namespace Go.Proofs.YtnbnhnjffiagmaaGreat
open Go.Sv
set_option linter.unusedSimpArgs false
set_option maxRecDepth 10000
def c_ref20_Needs:LC:=(.seq (.ops [.z 1 (.box (.t 0)),.z 2 (.move (.c .nilSl))]) (.seq (.ops [.f 6 3 1,.l 7 6,.f 8 5 1,.l 9 8,.z 10 (.build [(.i 0),(.i 0),(.i 0)] [(0,1,.c (.i 2)),(1,1,.t 7),(2,1,.t 9)]),.f 11 4 1,.l 12 11,.f 13 5 1,.l 14 13,.z 15 (.build [(.i 0),(.i 0),(.i 0)] [(0,1,.c (.i 2)),(1,1,.t 12),(2,1,.t 14)]),.z 16 (.buildSl 3 2 [(.i 0),(.i 0),(.i 0),(.i 0),(.i 0),(.i 0)] [(0,3,.t 10),(3,3,.t 15)]),.m 3 16]) (.seq (.ops [.f 17 5 1,.l 18 17,.z 19 (.build [(.i 0),(.i 0),(.i 0)] [(0,1,.c (.i 1)),(1,1,.t 18),(2,1,.c (.i (-1)))]),.z 4 (.alloc [(.i 0),(.i 0),(.i 0)]),⟨none,none,.store 3 (.t 4) (.t 19)⟩]) (.seq (.seq (.ops [.f 20 0 1,.l 21 20]) (.block 0 (.seq (.ops [.z 23 (.bin .eql true 3 (.t 21) (.c (.i 9))),.m 22 23]) (.cond (.t 22) (.seq (.ops [.f 24 5 1,.l 25 24,.z 26 (.build [(.i 0),(.i 0),(.i 0)] [(0,1,.c (.i 3)),(1,1,.t 25),(2,1,.c (.i (-1)))]),.z 27 (.buildSl 3 1 [(.i 0),(.i 0),(.i 0)] [(0,3,.t 26)]),.m 2 27]) .ret) (.seq (.seq (.ops [.z 29 (.bin .eql true 3 (.t 21) (.c (.i 10))),.m 28 29]) (.cond (.t 28) .skip (.ops [.z 30 (.bin .eql true 3 (.t 21) (.c (.i 11))),.m 28 30]))) (.cond (.t 28) (.seq (.ops [.m 31 3,.m 2 31]) .ret) (.seq (.ops [.z 33 (.bin .eql true 3 (.t 21) (.c (.i 12))),.m 32 33]) (.cond (.t 32) (.seq (.draw [(.z 34 (.loadN 3 (.t 4)),[]),(.m 35 3,[]),(.z 36 (.ixAddr 3 (.t 35) (.c (.i 0))),[]),(.z 37 (.loadN 3 (.t 36)),[]),(.m 38 3,[]),(.z 39 (.ixAddr 3 (.t 38) (.c (.i 1))),[]),(.z 40 (.loadN 3 (.t 39)),[]),(.z 41 (.buildSl 3 3 [(.i 0),(.i 0),(.i 0),(.i 0),(.i 0),(.i 0),(.i 0),(.i 0),(.i 0)] [(0,3,.t 34),(3,3,.t 37),(6,3,.t 40)]),[(.z 40 (.loadN 3 (.t 39)),false),(.z 37 (.loadN 3 (.t 36)),false),(.z 34 (.loadN 3 (.t 4)),false)]),(.m 2 41,[])]) .ret) (.seq (.ops [.z 43 (.bin .eql true 3 (.t 21) (.c (.i 13))),.m 42 43]) (.cond (.t 42) (.seq (.draw [(.z 44 (.loadN 3 (.t 4)),[]),(.m 45 3,[]),(.z 46 (.ixAddr 3 (.t 45) (.c (.i 0))),[]),(.z 47 (.loadN 3 (.t 46)),[]),(.z 48 (.buildSl 3 2 [(.i 0),(.i 0),(.i 0),(.i 0),(.i 0),(.i 0)] [(0,3,.t 44),(3,3,.t 47)]),[(.z 47 (.loadN 3 (.t 46)),false),(.z 44 (.loadN 3 (.t 4)),false)]),(.m 2 48,[])]) .ret) (.seq (.ops [.z 50 (.bin .eql true 3 (.t 21) (.c (.i 17))),.m 49 50]) (.cond (.t 49) (.seq (.ops [.z 5 (.move (.c (.i (-1))))]) (.seq (.seq (.ops [.f 51 6 1,.l 52 51,.z 53 (.bin .eql true 28 (.t 52) (.c (.u 2)))]) (.cond (.t 53) (.ops [.f 54 4 1,.l 55 54,.m 5 55]) .skip)) (.seq (.ops [.f 56 6 1,.l 57 56,.z 58 (.bin .geq true 28 (.t 57) (.c (.u 1))),.m 59 58,⟨some 60,(some (59,true)),.fieldAddr 6 (.t 1)⟩,⟨some 61,(some (59,true)),.load1 (.t 60)⟩,⟨some 62,(some (59,true)),.bin .leq true 28 (.t 61) (.c (.u 3))⟩,.z 63 (.pick (.t 59) (.t 62) (.c (.bool false)))]) (.cond (.t 63) (.seq (.ops [.f 64 6 1,.l 65 64,.z 66 (.cvInt .i64 (.t 65)),.f 67 3 1,.l 68 67,.m 69 5,.z 70 (.build [(.i 0),(.i 0),(.i 0)] [(0,1,.t 66),(1,1,.t 68),(2,1,.t 69)]),.z 71 (.buildSl 3 1 [(.i 0),(.i 0),(.i 0)] [(0,3,.t 70)]),.m 2 71]) .ret) .skip)))) .skip)))))))))))) (.seq (.ops [.z 2 (.move (.c .nilSl))]) .ret)))))
theorem r_ref20_Needs:resFn Tryz.prog 27=some ⟨72,c_ref20_Needs.r,[.tmp 2]⟩:=by kernel_rfl
theorem k_ref20_Needs:c_ref20_Needs.ok=true:=by kernel_rfl
def c_ref20_Holds:LC:=(.seq (.ops [.z 2 (.box (.t 0)),.z 4 (.move (.c (.bool false)))]) (.seq (.seq (.ops [.f 5 1 2,.l 6 5,.z 7 (.bin .lss true 3 (.t 6) (.c (.i 0))),.m 8 7,⟨some 9,(some (8,false)),.fieldAddr 1 (.t 2)⟩,⟨some 10,(some (8,false)),.load1 (.t 9)⟩,⟨some 11,(some (8,false)),.move (.t 1)⟩,⟨some 12,(some (8,false)),.lenSl (.t 11)⟩,⟨some 13,(some (8,false)),.bin .geq false 3 (.t 10) (.t 12)⟩,.z 14 (.pick (.t 8) (.c (.bool true)) (.t 13)),.m 15 14,⟨some 16,(some (15,false)),.fieldAddr 0 (.t 2)⟩,⟨some 17,(some (15,false)),.load1 (.t 16)⟩,⟨some 18,(some (15,false)),.bin .eql true 3 (.t 17) (.c (.i 2))⟩,⟨some 19,(some (15,false)),.move (.t 18)⟩,⟨some 20,(some (19,true)),.fieldAddr 2 (.t 2)⟩,⟨some 21,(some (19,true)),.load1 (.t 20)⟩,⟨some 22,(some (19,true)),.bin .lss true 3 (.t 21) (.c (.i 0))⟩,⟨some 23,(some (19,true)),.move (.t 22)⟩,⟨some 24,(some (23,false)),.fieldAddr 2 (.t 2)⟩,⟨some 25,(some (23,false)),.load1 (.t 24)⟩,⟨some 26,(some (23,false)),.move (.t 1)⟩,⟨some 27,(some (23,false)),.lenSl (.t 26)⟩,⟨some 28,(some (23,false)),.bin .geq false 3 (.t 25) (.t 27)⟩,⟨some 29,(some (19,true)),.pick (.t 23) (.c (.bool true)) (.t 28)⟩,⟨some 30,(some (15,false)),.pick (.t 19) (.t 29) (.c (.bool false))⟩,.z 31 (.pick (.t 15) (.c (.bool true)) (.t 30))]) (.cond (.t 31) (.seq (.ops [.z 4 (.move (.c (.bool false)))]) .ret) .skip)) (.seq (.seq (.ops [.f 32 0 2,.l 33 32]) (.block 0 (.seq (.ops [.z 35 (.bin .eql true 3 (.t 33) (.c (.i 1))),.m 34 35]) (.cond (.t 34) (.seq (.ops [.m 36 1,.f 37 1 2,.l 38 37,.z 39 (.ixAddr 1 (.t 36) (.t 38)),.l 40 39,.z 41 (.callV (.c (.fn (.func 58) [] [])) [.t 40,.c (.i 0)]),.m 4 41]) .ret) (.seq (.ops [.z 43 (.bin .eql true 3 (.t 33) (.c (.i 3))),.m 42 43]) (.cond (.t 42) (.seq (.ops [.m 44 1,.f 45 1 2,.l 46 45,.z 47 (.ixAddr 1 (.t 44) (.t 46)),.l 48 47,.z 49 (.callV (.c (.fn (.func 34) [] [])) [.t 48]),.z 50 (.lenSl (.t 49)),.z 51 (.bin .gtr true 3 (.t 50) (.c (.i 0))),.m 4 51]) .ret) (.seq (.ops [.z 53 (.bin .eql true 3 (.t 33) (.c (.i 2))),.m 52 53]) (.cond (.t 52) (.seq (.draw [(.m 54 1,[]),(.f 55 1 2,[]),(.l 56 55,[]),(.z 57 (.ixAddr 1 (.t 54) (.t 56)),[]),(.l 58 57,[]),(.m 59 1,[]),(.f 60 2 2,[]),(.l 61 60,[]),(.z 62 (.ixAddr 1 (.t 59) (.t 61)),[]),(.l 63 62,[]),(.z 64 (.callV (.c (.fn (.func 59) [] [])) [.t 58,.t 63]),[]),(.z 65 (.bin .lss true 3 (.t 64) (.c (.i 0))),[]),(.m 4 65,[])]) .ret) .skip)))))))) (.seq (.ops [.z 4 (.move (.c (.bool false)))]) .ret))))
theorem r_ref20_Holds:resFn Tryz.prog 28=some ⟨66,c_ref20_Holds.r,[.tmp 4]⟩:=by kernel_rfl
theorem k_ref20_Holds:c_ref20_Holds.ok=true:=by kernel_rfl
theorem rNeeds_ok (o:Ko):FnV Tryz.prog 27 [.agg o.f] (.lst (fcC (needsL o)) (needsL o).length 3):=by
 refine FnV.mk (by simp[LV.dat,fcC_dats]) (call_body r_ref20_Needs k_ref20_Needs (by simp) ?_)
 by_cases k9:o.kind=9
 ·simp[c_ref20_Needs,Ko.f,k9]
  simp[needsL,k9,fcC,fcF,borR,bor,dats,LV.dat]
 by_cases k10:o.kind=10∨o.kind=11
 ·rcases k10 with k | k
  all_goals
   simp[c_ref20_Needs,Ko.f,k]
   simp[needsL,k,fcC,fcF,borR,bor,dats,LV.dat]
 by_cases k12:o.kind=12
 ·simp[c_ref20_Needs,Ko.f,k12]
  simp[needsL,k12,fcC,fcF,borR,bor,dats,LV.dat]
 by_cases k13:o.kind=13
 ·simp[c_ref20_Needs,Ko.f,k13]
  simp[needsL,k13,fcC,fcF,borR,bor,dats,LV.dat]
 have k10':¬ o.kind=10:=fun h=>k10 (.inl h)
 have k11':¬ o.kind=11:=fun h=>k10 (.inr h)
 by_cases k17:o.kind=17
 ·by_cases i2:o.imm=2
  ·simp[c_ref20_Needs,Ko.f,k17,i2]
   simp[needsL,k17,i2,fcC,fcF,borR,bor,dats,LV.dat]
  by_cases i1:o.imm=1
  ·simp[c_ref20_Needs,Ko.f,k17,i1]
   simp[needsL,k17,i1,fcC,fcF,borR,bor,dats,LV.dat]
  by_cases i3:o.imm=3
  ·simp[c_ref20_Needs,Ko.f,k17,i3]
   simp[needsL,k17,i3,fcC,fcF,borR,bor,dats,LV.dat]
  by_cases g1:1≤o.imm
  ·have g3:¬ o.imm≤3:=fun h=>by
    rw[UInt64.le_iff_toNat_le] at g1 h
    have a1:o.imm.toNat≠1:=fun e=>i1 (UInt64.toNat_inj.1 e)
    have a2:o.imm.toNat≠2:=fun e=>i2 (UInt64.toNat_inj.1 e)
    have a3:o.imm.toNat≠3:=fun e=>i3 (UInt64.toNat_inj.1 e)
    have b1:(1:UInt64).toNat=1:=rfl
    have b3:(3:UInt64).toNat=3:=rfl
    omega
   simp[c_ref20_Needs,Ko.f,k17,i1,i2,i3,g1,g3,needsL,fcC,borR,bor]
  ·simp[c_ref20_Needs,Ko.f,k17,i1,i2,i3,g1,needsL,fcC,borR,bor]
 ·simp[c_ref20_Needs,Ko.f,k9,k10',k11',k12,k13,k17,needsL,fcC,borR,bor]
theorem rows_at {X:List (List UInt64)} {n:Nat} (h:n < X.length):(X.map LU)[n]?=some (LU (X.getD n [])):=in_at h
theorem rHolds_ok (f:Fc) (X:List (List UInt64)) (hv:∀ x∈X,x.length≤1000):FnS Tryz.prog 28 [.agg (fcF f),LN X] (.bool (holdsB f (X.map val))) []:=by
 refine FnS.val rfl (call_body r_ref20_Holds k_ref20_Holds (by simp) ?_)
 obtain⟨k,a,b⟩:=f
 have hXl:(X.map val).length=X.length:=by simp
 by_cases ha:0≤a∧a < X.length
 case neg =>
  have hth:thereB X.length a=false:=by
   rw[Bool.eq_false_iff]
   intro h
   exact ha (thereB_iff.1 h)
  by_cases a0:a < 0
  ·simp[c_ref20_Holds,fcF,LN,a0,holdsB,hth]
  ·have a1:(X.length:Int)≤a:=by omega
   simp[c_ref20_Holds,fcF,LN,a0,a1,holdsB,hth]
 obtain⟨n,rfl⟩:=Int.eq_ofNat_of_zero_le ha.1
 have hn:n < X.length:=by omega
 have hn2:¬ X.length≤n:=by omega
 have hn0:¬ (n:Int) < 0:=by omega
 have hth:thereB X.length (n:Int)=true:=thereB_iff.2 ha
 have qa:=rows_at hn
 have hva:=in_len hv n
 have ga:gN (X.map val) n=val (X.getD n []):=by rw[gN_at (by omega)]; exact vals_at
 obtain⟨x,hx⟩:∃ x,X.getD n []=x:=⟨_,rfl⟩
 have hx3:X[n]=x:=by rw[←hx]; simp[hn]
 rw[hx] at qa hva ga
 by_cases k1:k=1
 ·simp[c_ref20_Holds,fcF,LN,k1,hn,hn2,hn0]
  refine CallL_F (ref02_Bit_ok x 0 (by omega)) (by simp[hx3]) ?_
  simp[holdsB,hth,ga,Nat.testBit_zero]
 by_cases k3:k=3
 ·simp[c_ref20_Holds,fcF,LN,k3,hn,hn2,hn0]
  refine CallL_F (ref02_Trim_ok x (by omega)) (by simp[hx3]) ?_
  have hpos:0 < (toL (val x)).length↔0 < val x:=by
   by_cases h:val x=0
   ·rw[h,toL_zero]; simp
   ·rw[toL_pos h]; simp; omega
  simp[RU,holdsB,hth,ga]
  exact hpos
 by_cases k2:k=2
 ·by_cases hb:0≤b∧b < X.length
  ·obtain⟨m,rfl⟩:=Int.eq_ofNat_of_zero_le hb.1
   have hm:m < X.length:=by omega
   have hm2:¬ X.length≤m:=by omega
   have hm0:¬ (m:Int) < 0:=by omega
   have hthb:thereB X.length (m:Int)=true:=thereB_iff.2 hb
   have hvb:=in_len hv m
   have gb':gN (X.map val) m=val (X.getD m []):=by rw[gN_at (by omega)]; exact vals_at
   obtain⟨y,hy⟩:∃ y,X.getD m []=y:=⟨_,rfl⟩
   have hy3:X[m]=y:=by rw[←hy]; simp[hm]
   rw[hy] at hvb gb'
   simp[c_ref20_Holds,fcF,LN,k2,hn,hn2,hn0,hm,hm2,hm0]
   refine CallL_F (ref02_Compare_ok x y (by omega) (by omega)) (by simp[hx3,hy3]) ?_
   simp[holdsB,hth,hthb,ga,gb',cmpN_lt]
  ·have hthb:thereB X.length b=false:=by
    rw[Bool.eq_false_iff]
    intro h
    exact hb (thereB_iff.1 h)
   by_cases b0:b < 0
   ·simp[c_ref20_Holds,fcF,LN,k2,hn,hn2,hn0,b0,holdsB,hthb]
   ·have b1:(X.length:Int)≤b:=by omega
    simp[c_ref20_Holds,fcF,LN,k2,hn,hn2,hn0,b0,b1,holdsB,hthb]
 ·simp[c_ref20_Holds,fcF,LN,k1,k2,k3,hn,hn2,holdsB]
end Go.Proofs.YtnbnhnjffiagmaaGreat
