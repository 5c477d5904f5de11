/- Kernels: the document's parts of a check. -/
import Derived.Test.YtnbnhnjffiagmaaGreatFnK3
namespace Go.Proofs.YtnbnhnjffiagmaaGreat
open Go.Sv
set_option linter.unusedSimpArgs false
set_option maxRecDepth 10000
def c_ref19_need:LC:=(.seq (.ops [.z 3 (.box (.t 1)),.z 4 (.move (.c (.bool false)))]) (.seq (.ops [.m 6 0,.z 7 (.lenSl (.t 6)),.m 5 7]) (.seq (.seq (.ops [.f 8 1 3,.l 9 8,.z 10 (.bin .neq true 3 (.t 9) (.c (.i (-1)))),.m 11 10,⟨some 12,(some (11,false)),.fieldAddr 2 (.t 3)⟩,⟨some 13,(some (11,false)),.load1 (.t 12)⟩,⟨some 14,(some (11,false)),.bin .neq true 3 (.t 13) (.c (.i (-1)))⟩,.z 15 (.pick (.t 11) (.c (.bool true)) (.t 14)),.m 16 15,⟨some 17,(some (16,false)),.fieldAddr 5 (.t 3)⟩,⟨some 18,(some (16,false)),.load1 (.t 17)⟩,⟨some 19,(some (16,false)),.bin .neq true 3 (.t 18) (.c (.i (-1)))⟩,.z 20 (.pick (.t 16) (.c (.bool true)) (.t 19)),.m 21 20,⟨some 22,(some (21,false)),.fieldAddr 3 (.t 3)⟩,⟨some 23,(some (21,false)),.load1 (.t 22)⟩,⟨some 24,(some (21,false)),.bin .lss true 3 (.t 23) (.c (.i 0))⟩,.z 25 (.pick (.t 21) (.c (.bool true)) (.t 24)),.m 26 25,⟨some 27,(some (26,false)),.fieldAddr 3 (.t 3)⟩,⟨some 28,(some (26,false)),.load1 (.t 27)⟩,⟨some 29,(some (26,false)),.move (.t 5)⟩,⟨some 30,(some (26,false)),.bin .geq false 3 (.t 28) (.t 29)⟩,.z 31 (.pick (.t 26) (.c (.bool true)) (.t 30)),.m 32 31,⟨some 33,(some (32,false)),.fieldAddr 6 (.t 3)⟩,⟨some 34,(some (32,false)),.load1 (.t 33)⟩,⟨some 35,(some (32,false)),.bin .lss true 28 (.t 34) (.c (.u 1))⟩,.z 36 (.pick (.t 32) (.c (.bool true)) (.t 35)),.m 37 36,⟨some 38,(some (37,false)),.fieldAddr 6 (.t 3)⟩,⟨some 39,(some (37,false)),.load1 (.t 38)⟩,⟨some 40,(some (37,false)),.bin .gtr true 28 (.t 39) (.c (.u 3))⟩,.z 41 (.pick (.t 37) (.c (.bool true)) (.t 40))]) (.cond (.t 41) (.seq (.ops [.z 4 (.move (.c (.bool false)))]) .ret) .skip)) (.seq (.seq (.ops [.f 42 6 3,.l 43 42,.z 44 (.bin .eql true 28 (.t 43) (.c (.u 2)))]) (.cond (.t 44) (.seq (.ops [.f 45 4 3,.l 46 45,.z 47 (.bin .geq true 3 (.t 46) (.c (.i 0))),.m 48 47,⟨some 49,(some (48,true)),.fieldAddr 4 (.t 3)⟩,⟨some 50,(some (48,true)),.load1 (.t 49)⟩,⟨some 51,(some (48,true)),.move (.t 5)⟩,⟨some 52,(some (48,true)),.bin .lss false 3 (.t 50) (.t 51)⟩,.z 53 (.pick (.t 48) (.t 52) (.c (.bool false))),.m 4 53]) .ret) .skip)) (.seq (.ops [.f 54 4 3,.l 55 54,.z 56 (.bin .eql true 3 (.t 55) (.c (.i (-1)))),.m 4 56]) .ret)))))
theorem r_ref19_need:resFn Tryz.prog 65=some ⟨57,c_ref19_need.r,[.tmp 4]⟩:=by kernel_rfl
theorem k_ref19_need:c_ref19_need.ok=true:=by kernel_rfl
def c_ref19_shape:LC:=(.seq (.ops [.z 2 (.move (.c (.i 0)))]) (.seq (.seq (.ops [.m 3 0]) (.block 0 (.seq (.ops [.z 5 (.bin .eql true 3 (.t 3) (.c (.i 1))),.m 4 5]) (.cond (.t 4) (.seq (.ops [.z 2 (.move (.c (.i 1)))]) .ret) (.seq (.ops [.z 7 (.bin .eql true 3 (.t 3) (.c (.i 2))),.m 6 7]) (.cond (.t 6) (.seq (.ops [.z 2 (.move (.c (.i 5)))]) .ret) (.seq (.seq (.ops [.z 9 (.bin .eql true 3 (.t 3) (.c (.i 3))),.m 8 9]) (.cond (.t 8) .skip (.seq (.ops [.z 10 (.bin .eql true 3 (.t 3) (.c (.i 4))),.m 8 10]) (.cond (.t 8) .skip (.seq (.ops [.z 11 (.bin .eql true 3 (.t 3) (.c (.i 5))),.m 8 11]) (.cond (.t 8) .skip (.seq (.ops [.z 12 (.bin .eql true 3 (.t 3) (.c (.i 6))),.m 8 12]) (.cond (.t 8) .skip (.ops [.z 13 (.bin .eql true 3 (.t 3) (.c (.i 7))),.m 8 13]))))))))) (.cond (.t 8) (.seq (.ops [.z 2 (.move (.c (.i 13)))]) .ret) (.seq (.seq (.ops [.z 15 (.bin .eql true 3 (.t 3) (.c (.i 8))),.m 14 15]) (.cond (.t 14) .skip (.seq (.ops [.z 16 (.bin .eql true 3 (.t 3) (.c (.i 10))),.m 14 16]) (.cond (.t 14) .skip (.seq (.ops [.z 17 (.bin .eql true 3 (.t 3) (.c (.i 11))),.m 14 17]) (.cond (.t 14) .skip (.seq (.ops [.z 18 (.bin .eql true 3 (.t 3) (.c (.i 12))),.m 14 18]) (.cond (.t 14) .skip (.ops [.z 19 (.bin .eql true 3 (.t 3) (.c (.i 13))),.m 14 19]))))))))) (.cond (.t 14) (.seq (.ops [.z 2 (.move (.c (.i 29)))]) .ret) (.seq (.ops [.z 21 (.bin .eql true 3 (.t 3) (.c (.i 9))),.m 20 21]) (.cond (.t 20) (.seq (.ops [.z 2 (.move (.c (.i 21)))]) .ret) (.seq (.ops [.z 23 (.bin .eql true 3 (.t 3) (.c (.i 14))),.m 22 23]) (.cond (.t 22) (.seq (.ops [.z 2 (.move (.c (.i 19)))]) .ret) (.seq (.seq (.ops [.z 25 (.bin .eql true 3 (.t 3) (.c (.i 15))),.m 24 25]) (.cond (.t 24) .skip (.ops [.z 26 (.bin .eql true 3 (.t 3) (.c (.i 16))),.m 24 26]))) (.cond (.t 24) (.seq (.ops [.z 2 (.move (.c (.i 0)))]) .ret) .skip)))))))))))))))) (.seq (.ops [.z 2 (.move (.c (.i (-1))))]) .ret)))
theorem r_ref19_shape:resFn Tryz.prog 90=some ⟨27,c_ref19_shape.r,[.tmp 2]⟩:=by kernel_rfl
theorem k_ref19_shape:c_ref19_shape.ok=true:=by kernel_rfl
def c_ref19_fields:LC:=(.seq (.ops [.z 1 (.box (.t 0)),.z 2 (.alloc [(.i 0),(.i 0),(.i 0),(.i 0),(.i 0)])]) (.seq (.ops [.f 3 1 1,.l 4 3,.f 5 2 1,.l 6 5,.f 7 3 1,.l 8 7,.f 9 4 1,.l 10 9,.f 11 5 1,.l 12 11,.z 13 (.build [(.i 0),(.i 0),(.i 0),(.i 0),(.i 0)] [(0,1,.t 4),(1,1,.t 6),(2,1,.t 8),(3,1,.t 10),(4,1,.t 12)]),⟨none,none,.store 5 (.t 2) (.t 13)⟩]) .ret))
theorem r_ref19_fields:resFn Tryz.prog 91=some ⟨14,c_ref19_fields.r,[.cellN 2 5]⟩:=by kernel_rfl
theorem k_ref19_fields:c_ref19_fields.ok=true:=by kernel_rfl
def c_ref19_number:LC:=(.seq (.ops [.z 1 (.box (.t 0)),.z 2 (.move (.c (.bool false)))]) (.seq (.seq (.ops [.f 3 0 1,.l 4 3]) (.block 0 (.seq (.ops [.z 6 (.bin .eql true 3 (.t 4) (.c (.i 1))),.m 5 6]) (.cond (.t 5) (.seq (.ops [.z 2 (.move (.c (.bool true)))]) .ret) (.seq (.ops [.z 8 (.bin .eql true 3 (.t 4) (.c (.i 13))),.m 7 8]) (.cond (.t 7) (.seq (.ops [.f 9 6 1,.l 10 9,.z 11 (.bin .geq true 28 (.t 10) (.c (.u 1))),.m 12 11,⟨some 13,(some (12,true)),.fieldAddr 6 (.t 1)⟩,⟨some 14,(some (12,true)),.load1 (.t 13)⟩,⟨some 15,(some (12,true)),.bin .leq true 28 (.t 14) (.c (.u 6))⟩,.z 16 (.pick (.t 12) (.t 15) (.c (.bool false))),.m 2 16]) .ret) (.seq (.ops [.z 18 (.bin .eql true 3 (.t 4) (.c (.i 15))),.m 17 18]) (.cond (.t 17) (.seq (.ops [.f 19 6 1,.l 20 19,.z 21 (.bin .geq true 28 (.t 20) (.c (.u 1))),.m 22 21,⟨some 23,(some (22,true)),.fieldAddr 6 (.t 1)⟩,⟨some 24,(some (22,true)),.load1 (.t 23)⟩,⟨some 25,(some (22,true)),.bin .leq true 28 (.t 24) (.c (.u 4096))⟩,.z 26 (.pick (.t 22) (.t 25) (.c (.bool false))),.m 2 26]) .ret) .skip)))))))) (.seq (.ops [.f 27 6 1,.l 28 27,.z 29 (.bin .eql true 28 (.t 28) (.c (.u 0))),.m 2 29]) .ret)))
theorem r_ref19_number:resFn Tryz.prog 92=some ⟨30,c_ref19_number.r,[.tmp 2]⟩:=by kernel_rfl
theorem k_ref19_number:c_ref19_number.ok=true:=by kernel_rfl
def c_ref19_alike:LC:=(.seq (.ops [.z 1 (.box (.t 0)),.z 2 (.move (.c .nilSl))]) (.seq (.seq (.ops [.f 3 0 1,.l 4 3]) (.block 0 (.seq (.ops [.z 6 (.bin .eql true 3 (.t 4) (.c (.i 6))),.m 5 6]) (.cond (.t 5) (.seq (.ops [.f 7 3 1,.l 8 7,.f 9 4 1,.l 10 9,.z 11 (.buildSl 1 2 [(.i 0),(.i 0)] [(0,1,.t 8),(1,1,.t 10)]),.m 2 11]) .ret) (.seq (.ops [.z 13 (.bin .eql true 3 (.t 4) (.c (.i 14))),.m 12 13]) (.cond (.t 12) (.seq (.ops [.f 14 1 1,.l 15 14,.f 16 2 1,.l 17 16,.z 18 (.buildSl 1 2 [(.i 0),(.i 0)] [(0,1,.t 15),(1,1,.t 17)]),.m 2 18]) .ret) (.seq (.ops [.z 20 (.bin .eql true 3 (.t 4) (.c (.i 8))),.m 19 20]) (.cond (.t 19) (.seq (.ops [.f 21 1 1,.l 22 21,.f 23 3 1,.l 24 23,.f 25 4 1,.l 26 25,.z 27 (.buildSl 1 3 [(.i 0),(.i 0),(.i 0)] [(0,1,.t 22),(1,1,.t 24),(2,1,.t 26)]),.m 2 27]) .ret) (.seq (.ops [.z 29 (.bin .eql true 3 (.t 4) (.c (.i 9))),.m 28 29]) (.cond (.t 28) (.seq (.ops [.f 30 1 1,.l 31 30,.f 32 5 1,.l 33 32,.z 34 (.buildSl 1 2 [(.i 0),(.i 0)] [(0,1,.t 31),(1,1,.t 33)]),.m 2 34]) .ret) (.seq (.seq (.ops [.z 36 (.bin .eql true 3 (.t 4) (.c (.i 10))),.m 35 36]) (.cond (.t 35) .skip (.seq (.ops [.z 37 (.bin .eql true 3 (.t 4) (.c (.i 11))),.m 35 37]) (.cond (.t 35) .skip (.ops [.z 38 (.bin .eql true 3 (.t 4) (.c (.i 12))),.m 35 38]))))) (.cond (.t 35) (.seq (.ops [.f 39 1 1,.l 40 39,.f 41 3 1,.l 42 41,.f 43 4 1,.l 44 43,.f 45 5 1,.l 46 45,.z 47 (.buildSl 1 4 [(.i 0),(.i 0),(.i 0),(.i 0)] [(0,1,.t 40),(1,1,.t 42),(2,1,.t 44),(3,1,.t 46)]),.m 2 47]) .ret) (.seq (.ops [.z 49 (.bin .eql true 3 (.t 4) (.c (.i 13))),.m 48 49]) (.cond (.t 48) (.seq (.ops [.f 50 1 1,.l 51 50,.f 52 3 1,.l 53 52,.f 54 5 1,.l 55 54,.z 56 (.buildSl 1 3 [(.i 0),(.i 0),(.i 0)] [(0,1,.t 51),(1,1,.t 53),(2,1,.t 55)]),.m 2 56]) .ret) .skip)))))))))))))) (.seq (.ops [.z 2 (.move (.c .nilSl))]) .ret)))
theorem r_ref19_alike:resFn Tryz.prog 140=some ⟨57,c_ref19_alike.r,[.tmp 2]⟩:=by kernel_rfl
theorem k_ref19_alike:c_ref19_alike.ok=true:=by kernel_rfl
def c_ref19_agree:LC:=(.seq (.ops [.z 3 (.box (.t 1)),.z 4 (.move (.c (.bool false)))]) (.seq (.ops [.z 7 (.loadN 7 (.t 3)),.z 8 (.callV (.c (.fn (.func 140) [] [])) [.t 7]),.m 5 8]) (.seq (.seq (.ops [.z 6 (.move (.c (.i 1)))]) (.block 0 (.loop (.seq (.seq (.ops [.m 9 6,.m 10 5,.z 11 (.lenSl (.t 10)),.z 12 (.bin .lss false 3 (.t 9) (.t 11))]) (.cond (.t 12) .skip (.exit 0))) (.seq (.block 1 (.seq (.draw [(.m 15 0,[]),(.m 16 5,[]),(.m 17 6,[]),(.z 18 (.ixAddr 1 (.t 16) (.t 17)),[]),(.l 19 18,[]),(.z 20 (.ixAddr 3 (.t 15) (.t 19)),[]),(.f 21 0 20,[]),(.l 22 21,[]),(.m 23 0,[]),(.m 24 5,[]),(.z 25 (.ixAddr 1 (.t 24) (.c (.i 0))),[]),(.l 26 25,[]),(.z 27 (.ixAddr 3 (.t 23) (.t 26)),[]),(.f 28 0 27,[]),(.l 29 28,[]),(.z 30 (.bin .neq false 3 (.t 22) (.t 29)),[])]) (.cond (.t 30) (.seq (.ops [.z 4 (.move (.c (.bool false)))]) .ret) .skip))) (.ops [.m 13 6,.z 14 (.bin .add true 3 (.t 13) (.c (.i 1))),.m 6 14])))))) (.seq (.ops [.z 4 (.move (.c (.bool true)))]) .ret))))
theorem r_ref19_agree:resFn Tryz.prog 93=some ⟨31,c_ref19_agree.r,[.tmp 4]⟩:=by kernel_rfl
theorem k_ref19_agree:c_ref19_agree.ok=true:=by kernel_rfl
def c_ref19_One:LC:=(.seq (.ops [.z 3 (.box (.t 1)),.z 4 (.move (.c (.bool false)))]) (.seq (.seq (.ops [.f 11 0 3,.l 12 11,.z 13 (.bin .eql true 3 (.t 12) (.c (.i 17)))]) (.cond (.t 13) (.seq (.ops [.m 14 0,.z 15 (.loadN 7 (.t 3)),.z 16 (.callV (.c (.fn (.func 65) [] [])) [.t 14,.t 15]),.m 4 16]) .ret) .skip)) (.seq (.draw [(.f 17 0 3,[]),(.l 18 17,[]),(.z 20 (.loadN 7 (.t 3)),[]),(.z 6 (.alloc [(.i 0),(.i 0),(.i 0),(.i 0),(.i 0)]),[(.z 20 (.loadN 7 (.t 3)),false),(.l 18 17,false)]),(.z 19 (.callV (.c (.fn (.func 90) [] [])) [.t 18]),[(.z 6 (.alloc [(.i 0),(.i 0),(.i 0),(.i 0),(.i 0)]),true),(.z 20 (.loadN 7 (.t 3)),false)]),(.z 21 (.callV (.c (.fn (.func 91) [] [])) [.t 20]),[(.z 6 (.alloc [(.i 0),(.i 0),(.i 0),(.i 0),(.i 0)]),true)]),(.m 5 19,[]),(⟨none,none,.store 5 (.t 6) (.t 21)⟩,[])]) (.seq (.seq (.ops [.m 22 5,.z 23 (.bin .lss true 3 (.t 22) (.c (.i 0))),.m 24 23,⟨some 25,(some (24,false)),.loadN 7 (.t 3)⟩,⟨some 26,(some (24,false)),.callV (.c (.fn (.func 92) [] [])) [.t 25]⟩,⟨some 27,(some (24,false)),.un .not (.t 26)⟩,.z 28 (.pick (.t 24) (.c (.bool true)) (.t 27))]) (.cond (.t 28) (.seq (.ops [.z 4 (.move (.c (.bool false)))]) .ret) .skip)) (.seq (.ops [.z 7 (.move (.c (.bool false)))]) (.seq (.seq (.ops [.z 8 (.move (.c (.i 0)))]) (.block 0 (.loop (.seq (.seq (.ops [.m 29 8,.z 30 (.bin .lss true 3 (.t 29) (.c (.i 5)))]) (.cond (.t 30) .skip (.exit 0))) (.seq (.block 1 (.seq (.ops [.m 33 5,.m 34 8,.z 35 (.cvInt .u64 (.t 34)),.z 36 (.bin .shr false 3 (.t 33) (.t 35)),.z 37 (.bin .and true 3 (.t 36) (.c (.i 1))),.z 38 (.bin .eql true 3 (.t 37) (.c (.i 1))),.m 9 38]) (.seq (.seq (.ops [.m 39 9,.m 40 39,⟨some 41,(some (40,true)),.move (.t 8)⟩,⟨some 42,(some (40,true)),.ixAddrArr 5 1 (.t 6) (.t 41)⟩,⟨some 43,(some (40,true)),.load1 (.t 42)⟩,⟨some 44,(some (40,true)),.bin .lss true 3 (.t 43) (.c (.i 0))⟩,⟨some 45,(some (40,true)),.move (.t 44)⟩,⟨some 46,(some (45,false)),.move (.t 8)⟩,⟨some 47,(some (45,false)),.ixAddrArr 5 1 (.t 6) (.t 46)⟩,⟨some 48,(some (45,false)),.load1 (.t 47)⟩,⟨some 49,(some (45,false)),.move (.t 0)⟩,⟨some 50,(some (45,false)),.lenSl (.t 49)⟩,⟨some 51,(some (45,false)),.bin .geq false 3 (.t 48) (.t 50)⟩,⟨some 52,(some (40,true)),.pick (.t 45) (.c (.bool true)) (.t 51)⟩,.z 53 (.pick (.t 40) (.t 52) (.c (.bool false))),.m 54 53,⟨some 55,(some (54,false)),.move (.t 9)⟩,⟨some 56,(some (54,false)),.un .not (.t 55)⟩,⟨some 57,(some (54,false)),.move (.t 56)⟩,⟨some 58,(some (57,true)),.move (.t 8)⟩,⟨some 59,(some (57,true)),.ixAddrArr 5 1 (.t 6) (.t 58)⟩,⟨some 60,(some (57,true)),.load1 (.t 59)⟩,⟨some 61,(some (57,true)),.bin .neq true 3 (.t 60) (.c (.i (-1)))⟩,⟨some 62,(some (54,false)),.pick (.t 57) (.t 61) (.c (.bool false))⟩,.z 63 (.pick (.t 54) (.c (.bool true)) (.t 62))]) (.cond (.t 63) (.seq (.ops [.z 4 (.move (.c (.bool false)))]) .ret) .skip)) (.seq (.ops [.m 64 9,.m 65 64,⟨some 66,(some (65,true)),.move (.t 8)⟩,⟨some 67,(some (65,true)),.bin .geq true 3 (.t 66) (.c (.i 2))⟩,⟨some 68,(some (65,true)),.move (.t 67)⟩,⟨some 69,(some (68,false)),.fieldAddr 0 (.t 3)⟩,⟨some 70,(some (68,false)),.load1 (.t 69)⟩,⟨some 71,(some (68,false)),.bin .eql true 3 (.t 70) (.c (.i 14))⟩,⟨some 72,(some (65,true)),.pick (.t 68) (.c (.bool true)) (.t 71)⟩,.z 73 (.pick (.t 65) (.t 72) (.c (.bool false)))]) (.cond (.t 73) (.ops [.m 74 7,.m 75 74,⟨some 76,(some (75,false)),.move (.t 0)⟩,⟨some 77,(some (75,false)),.move (.t 8)⟩,⟨some 78,(some (75,false)),.ixAddrArr 5 1 (.t 6) (.t 77)⟩,⟨some 79,(some (75,false)),.load1 (.t 78)⟩,⟨some 80,(some (75,false)),.ixAddr 3 (.t 76) (.t 79)⟩,⟨some 81,(some (75,false)),.fieldAddr 1 (.t 80)⟩,⟨some 82,(some (75,false)),.load1 (.t 81)⟩,.z 83 (.pick (.t 75) (.c (.bool true)) (.t 82)),.m 7 83]) .skip))))) (.ops [.m 31 8,.z 32 (.bin .add true 3 (.t 31) (.c (.i 1))),.m 8 32])))))) (.seq (.seq (.ops [.z 10 (.move (.c (.i 0)))]) (.block 2 (.loop (.seq (.seq (.ops [.m 84 10,.z 85 (.bin .lss true 3 (.t 84) (.c (.i 2)))]) (.cond (.t 85) .skip (.exit 2))) (.seq (.block 3 (.seq (.ops [.m 88 10,.z 89 (.ixAddrArr 5 1 (.t 6) (.t 88)),.l 90 89,.z 91 (.bin .geq true 3 (.t 90) (.c (.i 0))),.m 92 91,⟨some 93,(some (92,true)),.move (.t 0)⟩,⟨some 94,(some (92,true)),.move (.t 10)⟩,⟨some 95,(some (92,true)),.ixAddrArr 5 1 (.t 6) (.t 94)⟩,⟨some 96,(some (92,true)),.load1 (.t 95)⟩,⟨some 97,(some (92,true)),.ixAddr 3 (.t 93) (.t 96)⟩,⟨some 98,(some (92,true)),.fieldAddr 2 (.t 97)⟩,⟨some 99,(some (92,true)),.load1 (.t 98)⟩,⟨some 100,(some (92,true)),.bin .eql true 3 (.t 99) (.c (.i 1))⟩,⟨some 101,(some (92,true)),.move (.t 100)⟩,⟨some 102,(some (101,false)),.move (.t 0)⟩,⟨some 103,(some (101,false)),.move (.t 10)⟩,⟨some 104,(some (101,false)),.ixAddrArr 5 1 (.t 6) (.t 103)⟩,⟨some 105,(some (101,false)),.load1 (.t 104)⟩,⟨some 106,(some (101,false)),.ixAddr 3 (.t 102) (.t 105)⟩,⟨some 107,(some (101,false)),.fieldAddr 2 (.t 106)⟩,⟨some 108,(some (101,false)),.load1 (.t 107)⟩,⟨some 109,(some (101,false)),.bin .eql true 3 (.t 108) (.c (.i 2))⟩,⟨some 110,(some (92,true)),.pick (.t 101) (.c (.bool true)) (.t 109)⟩,⟨some 111,(some (92,true)),.move (.t 110)⟩,⟨some 112,(some (111,false)),.move (.t 7)⟩,⟨some 113,(some (111,false)),.move (.t 112)⟩,⟨some 114,(some (113,true)),.move (.t 0)⟩,⟨some 115,(some (113,true)),.move (.t 10)⟩,⟨some 116,(some (113,true)),.ixAddrArr 5 1 (.t 6) (.t 115)⟩,⟨some 117,(some (113,true)),.load1 (.t 116)⟩,⟨some 118,(some (113,true)),.ixAddr 3 (.t 114) (.t 117)⟩,⟨some 119,(some (113,true)),.fieldAddr 1 (.t 118)⟩,⟨some 120,(some (113,true)),.load1 (.t 119)⟩,⟨some 121,(some (113,true)),.un .not (.t 120)⟩,⟨some 122,(some (111,false)),.pick (.t 113) (.t 121) (.c (.bool false))⟩,⟨some 123,(some (92,true)),.pick (.t 111) (.c (.bool true)) (.t 122)⟩,.z 124 (.pick (.t 92) (.t 123) (.c (.bool false)))]) (.cond (.t 124) (.seq (.ops [.z 4 (.move (.c (.bool false)))]) .ret) .skip))) (.ops [.m 86 10,.z 87 (.bin .add true 3 (.t 86) (.c (.i 1))),.m 10 87])))))) (.seq (.ops [.f 125 2 3,.l 126 125,.z 127 (.bin .lss true 3 (.t 126) (.c (.i 0))),.m 128 127,⟨some 129,(some (128,false)),.fieldAddr 1 (.t 3)⟩,⟨some 130,(some (128,false)),.load1 (.t 129)⟩,⟨some 131,(some (128,false)),.fieldAddr 2 (.t 3)⟩,⟨some 132,(some (128,false)),.load1 (.t 131)⟩,⟨some 133,(some (128,false)),.bin .neq false 3 (.t 130) (.t 132)⟩,.z 134 (.pick (.t 128) (.c (.bool true)) (.t 133)),.m 135 134,⟨some 136,(some (135,true)),.move (.t 0)⟩,⟨some 137,(some (135,true)),.loadN 7 (.t 3)⟩,⟨some 138,(some (135,true)),.callV (.c (.fn (.func 93) [] [])) [.t 136,.t 137]⟩,.z 139 (.pick (.t 135) (.t 138) (.c (.bool false))),.m 4 139]) .ret))))))))
theorem r_ref19_One:resFn Tryz.prog 66=some ⟨140,c_ref19_One.r,[.tmp 4]⟩:=by kernel_rfl
theorem k_ref19_One:c_ref19_One.ok=true:=by kernel_rfl
def c_ref19_makes:LC:=(.seq (.ops [.z 3 (.box (.t 1)),.z 4 (.move (.c (.bool false)))]) (.seq (.ops [.z 7 (.loadN 7 (.t 3)),.z 8 (.callV (.c (.fn (.func 91) [] [])) [.t 7]),.z 5 (.alloc [(.i 0),(.i 0),(.i 0),(.i 0),(.i 0)]),⟨none,none,.store 5 (.t 5) (.t 8)⟩]) (.seq (.seq (.ops [.z 6 (.move (.c (.i 0)))]) (.block 0 (.loop (.seq (.seq (.ops [.m 9 6,.z 10 (.bin .lss true 3 (.t 9) (.c (.i 5)))]) (.cond (.t 10) .skip (.exit 0))) (.seq (.block 1 (.seq (.ops [.m 13 6,.z 14 (.ixAddrArr 5 1 (.t 5) (.t 13)),.l 15 14,.z 16 (.bin .geq true 3 (.t 15) (.c (.i 0))),.m 17 16,⟨some 18,(some (17,true)),.move (.t 6)⟩,⟨some 19,(some (17,true)),.bin .geq true 3 (.t 18) (.c (.i 2))⟩,⟨some 20,(some (17,true)),.move (.t 19)⟩,⟨some 21,(some (20,false)),.fieldAddr 0 (.t 3)⟩,⟨some 22,(some (20,false)),.load1 (.t 21)⟩,⟨some 23,(some (20,false)),.bin .eql true 3 (.t 22) (.c (.i 14))⟩,⟨some 24,(some (17,true)),.pick (.t 20) (.c (.bool true)) (.t 23)⟩,.z 25 (.pick (.t 17) (.t 24) (.c (.bool false))),.m 26 25,⟨some 27,(some (26,true)),.move (.t 0)⟩,⟨some 28,(some (26,true)),.move (.t 6)⟩,⟨some 29,(some (26,true)),.ixAddrArr 5 1 (.t 5) (.t 28)⟩,⟨some 30,(some (26,true)),.load1 (.t 29)⟩,⟨some 31,(some (26,true)),.ixAddr 1 (.t 27) (.t 30)⟩,⟨some 32,(some (26,true)),.load1 (.t 31)⟩,⟨some 33,(some (26,true)),.un .not (.t 32)⟩,.z 34 (.pick (.t 26) (.t 33) (.c (.bool false)))]) (.cond (.t 34) (.seq (.ops [.z 4 (.move (.c (.bool false)))]) .ret) .skip))) (.ops [.m 11 6,.z 12 (.bin .add true 3 (.t 11) (.c (.i 1))),.m 6 12])))))) (.seq (.seq (.ops [.f 35 1 3,.l 36 35,.z 37 (.bin .geq true 3 (.t 36) (.c (.i 0)))]) (.cond (.t 37) (.ops [.m 38 0,.f 39 1 3,.l 40 39,.z 41 (.ixAddr 1 (.t 38) (.t 40)),⟨none,none,.store 1 (.t 41) (.c (.bool true))⟩]) .skip)) (.seq (.ops [.z 4 (.move (.c (.bool true)))]) .ret)))))
theorem r_ref19_makes:resFn Tryz.prog 67=some ⟨42,c_ref19_makes.r,[.tmp 4]⟩:=by kernel_rfl
theorem k_ref19_makes:c_ref19_makes.ok=true:=by kernel_rfl
theorem imm3 {n:UInt64} (h1:n≠1) (h2:n≠2) (h3:n≠3):n < 1∨3 < n:=by
 have e1:n.toNat≠1:=fun h=>h1 (UInt64.toNat_inj.1 h)
 have e2:n.toNat≠2:=fun h=>h2 (UInt64.toNat_inj.1 h)
 have e3:n.toNat≠3:=fun h=>h3 (UInt64.toNat_inj.1 h)
 rw[UInt64.lt_iff_toNat_lt,UInt64.lt_iff_toNat_lt]
 show n.toNat < 1∨3 < n.toNat
 omega
theorem ref19_need_ok (c:List LV) (n:Nat) (o:Ko):FnS Tryz.prog 65 [.lst c n 3,.agg o.f] (.bool (needB n o)) []:=by
 refine FnS.val rfl (call_body r_ref19_need k_ref19_need (by simp) ?_)
 have hC:o.f=[.i o.kind,.i o.d,.i o.e,.i o.a,.i o.b,.i o.c,.u o.imm]:=rfl
 by_cases h1:o.d=-1
 case neg=>simp[c_ref19_need,hC,needB,h1]
 by_cases h2:o.e=-1
 case neg=>simp[c_ref19_need,hC,needB,h1,h2]
 by_cases h3:o.c=-1
 case neg=>simp[c_ref19_need,hC,needB,h1,h2,h3]
 by_cases h4:o.a < 0
 ·have:thereB n o.a=false:=by simp[thereB]; omega
  simp[c_ref19_need,hC,needB,h1,h2,h3,h4,this]
 by_cases h5:(n:Int)≤o.a
 ·have:thereB n o.a=false:=by simp[thereB]; omega
  simp[c_ref19_need,hC,needB,h1,h2,h3,h4,h5,this]
 have ha:thereB n o.a=true:=by simp[thereB]; omega
 by_cases i2:o.imm=2
 ·by_cases b0:0≤o.b
  ·by_cases b1:o.b < n
   ·have hb:thereB n o.b=true:=by simp[thereB]; omega
    simp[c_ref19_need,hC,needB,h1,h2,h3,h4,h5,ha,i2,b0,b1,hb]
   ·have hb:thereB n o.b=false:=by simp[thereB]; omega
    simp[c_ref19_need,hC,needB,h1,h2,h3,h4,h5,ha,i2,b0,b1,hb]
  ·have hb:thereB n o.b=false:=by simp[thereB]; omega
   simp[c_ref19_need,hC,needB,h1,h2,h3,h4,h5,ha,i2,b0,hb]
 by_cases i1:o.imm=1
 ·simp[c_ref19_need,hC,needB,h1,h2,h3,h4,h5,ha,i2,i1]
 by_cases i3:o.imm=3
 ·simp[c_ref19_need,hC,needB,h1,h2,h3,h4,h5,ha,i2,i1,i3]
 rcases imm3 i1 i2 i3 with j | j
 ·simp[c_ref19_need,hC,needB,h1,h2,h3,h4,h5,ha,i2,i1,i3,j]
 ·by_cases j0:o.imm < 1
  ·simp[c_ref19_need,hC,needB,h1,h2,h3,h4,h5,ha,i2,i1,i3,j0]
  ·simp[c_ref19_need,hC,needB,h1,h2,h3,h4,h5,ha,i2,i1,i3,j,j0]
def shapeZ (k:Int):Int:=match shapeN k with
 | some s=>s
 | none=>-1
theorem ref19_shape_ok (k:Int):FnS Tryz.prog 90 [.i k] (.i (shapeZ k)) []:=by
 refine FnS.val rfl (call_body r_ref19_shape k_ref19_shape (by simp) ?_)
 by_cases h1:k=1; · subst h1; simp[c_ref19_shape,shapeZ,shapeN]
 by_cases h2:k=2; · subst h2; simp[c_ref19_shape,shapeZ,shapeN]
 by_cases h3:k=3; · subst h3; simp[c_ref19_shape,shapeZ,shapeN]
 by_cases h4:k=4; · subst h4; simp[c_ref19_shape,shapeZ,shapeN]
 by_cases h5:k=5; · subst h5; simp[c_ref19_shape,shapeZ,shapeN]
 by_cases h6:k=6; · subst h6; simp[c_ref19_shape,shapeZ,shapeN]
 by_cases h7:k=7; · subst h7; simp[c_ref19_shape,shapeZ,shapeN]
 by_cases h8:k=8; · subst h8; simp[c_ref19_shape,shapeZ,shapeN]
 by_cases h9:k=9; · subst h9; simp[c_ref19_shape,shapeZ,shapeN]
 by_cases h10:k=10; · subst h10; simp[c_ref19_shape,shapeZ,shapeN]
 by_cases h11:k=11; · subst h11; simp[c_ref19_shape,shapeZ,shapeN]
 by_cases h12:k=12; · subst h12; simp[c_ref19_shape,shapeZ,shapeN]
 by_cases h13:k=13; · subst h13; simp[c_ref19_shape,shapeZ,shapeN]
 by_cases h14:k=14; · subst h14; simp[c_ref19_shape,shapeZ,shapeN]
 by_cases h15:k=15; · subst h15; simp[c_ref19_shape,shapeZ,shapeN]
 by_cases h16:k=16; · subst h16; simp[c_ref19_shape,shapeZ,shapeN]
 simp[c_ref19_shape,shapeZ,shapeN,h1,h2,h3,h4,h5,h6,h7,h8,h9,h10,h11,h12,h13,h14,h15,h16]
theorem ref19_fields_ok (o:Ko):FnS Tryz.prog 91 [.agg o.f] (.agg [.i o.d,.i o.e,.i o.a,.i o.b,.i o.c]) []:=by
 refine FnS.val rfl (call_body r_ref19_fields k_ref19_fields (by simp) ?_)
 simp[c_ref19_fields,Ko.f]
theorem ref19_number_ok (o:Ko):FnS Tryz.prog 92 [.agg o.f] (.bool (numB o)) []:=by
 refine FnS.val rfl (call_body r_ref19_number k_ref19_number (by simp) ?_)
 by_cases h1:o.kind=1; · simp[c_ref19_number,Ko.f,numB,h1]
 by_cases h2:o.kind=13
 ·by_cases g:1≤o.imm <;> simp[c_ref19_number,Ko.f,numB,h1,h2,g]
 by_cases h3:o.kind=15
 ·by_cases g:1≤o.imm <;> simp[c_ref19_number,Ko.f,numB,h1,h2,h3,g]
 simp[c_ref19_number,Ko.f,numB,h1,h2,h3]
theorem ref19_alike_ok (o:Ko):FnV Tryz.prog 140 [.agg o.f] (.lst ((alikeL o).map .i) (alikeL o).length 1):=by
 have di:∀ l:List Int,dats (l.map .i)=true:=fun l=>dats_map (fun _=>rfl) l
 refine FnV.mk (by simp[LV.dat,di]) (call_body r_ref19_alike k_ref19_alike (by simp) ?_)
 have hC:o.f=[.i o.kind,.i o.d,.i o.e,.i o.a,.i o.b,.i o.c,.u o.imm]:=rfl
 by_cases h6:o.kind=6; · simp[c_ref19_alike,hC,alikeL,h6,borR,bor,LV.dat,dats]
 by_cases h14:o.kind=14; · simp[c_ref19_alike,hC,alikeL,h14,borR,bor,LV.dat,dats]
 by_cases h8:o.kind=8; · simp[c_ref19_alike,hC,alikeL,h8,borR,bor,LV.dat,dats]
 by_cases h9:o.kind=9; · simp[c_ref19_alike,hC,alikeL,h9,borR,bor,LV.dat,dats]
 by_cases h10:o.kind=10; · simp[c_ref19_alike,hC,alikeL,h10,borR,bor,LV.dat,dats]
 by_cases h11:o.kind=11; · simp[c_ref19_alike,hC,alikeL,h11,borR,bor,LV.dat,dats]
 by_cases h12:o.kind=12; · simp[c_ref19_alike,hC,alikeL,h12,borR,bor,LV.dat,dats]
 by_cases h13:o.kind=13; · simp[c_ref19_alike,hC,alikeL,h13,borR,bor,LV.dat,dats]
 simp[c_ref19_alike,hC,alikeL,h6,h8,h9,h10,h11,h12,h13,h14,borR,bor]
theorem ref19_agree_ok (vs:List Vr) (o:Ko) (hv:∀ v∈alikeL o,inV vs v):FnS Tryz.prog 93 [.lst (vsC vs) vs.length 3,.agg o.f] (.bool (agreeB vs o)) []:=by
 refine FnS.val rfl (call_body r_ref19_agree k_ref19_agree (by simp) ?_)
 have hC:o.f=[.i o.kind,.i o.d,.i o.e,.i o.a,.i o.b,.i o.c,.u o.imm]:=rfl
 have hl:(alikeL o).length≤4:=by
  unfold alikeL; repeat' split
  all_goals simp
 simp[c_ref19_agree,hC]
 rw[←hC]
 refine CallL_V (ref19_alike_ok o) rfl ?_
 rw[agreeB]
 generalize alikeL o=L at *
 simp
 refine loop_nx (fun ρ D G N=>∃ i:Nat,D=[]∧N+i=L.length+1∧1≤i∧lk ρ 0=.lst (vsC vs) vs.length 3∧lk ρ 5=.lst (L.map .i) L.length 1∧lk ρ 6=.i i∧∀ j,1≤j→j < i→limbsAt vs (gd L j)=limbsAt vs (gd L 0)) (N:=L.length) ⟨1,rfl,by omega,by omega,by simp,by simp,by simp,fun j h1 h2=>by omega⟩ ?_
 rintro N ρ D G ⟨i,rfl,hN,hi1,h0,h5,h6,hp⟩ Nx hNx
 by_cases g:i < L.length
 ·have hg:=map_at (f:=LV.i) (at_getD (l:=L) (u:=i) g)
  have hg0:=map_at (f:=LV.i) (at_getD (l:=L) (u:=0) (by omega))
  have mi:gd L i∈L:=List.mem_of_getElem? (at_getD g)
  have m0:gd L 0∈L:=List.mem_of_getElem? (at_getD (u:=0) (by omega))
  obtain⟨a,ea,ha,qa⟩:=(hv _ mi).at
  obtain⟨b,eb,hb,qb⟩:=(hv _ m0).at
  have q1:=vs_at0 qa
  have q2:=vs_at0 qb
  rw[ea] at q1
  rw[eb] at q2
  simp only[Int.toNat_natCast] at q1 q2
  have hcmp:limbsAt vs (gd L i)=(gv vs a).limbs:=by rw[ea]; simp[limbsAt]
  have hcmp0:limbsAt vs (gd L 0)=(gv vs b).limbs:=by rw[eb]; simp[limbsAt]
  by_cases e:limbsAt vs (gd L i)=limbsAt vs (gd L 0)
  ·have e':=e
   rw[hcmp,hcmp0] at e'
   simp[h0,h5,h6,g,nthL_at hg,nthL_at hg0,ea,eb,ha,hb,nthL_at q1,nthL_at q2,e']
   refine⟨by omega,by omega,hNx _ _ _ ⟨N - 1,by omega,i+1,rfl,by omega,by omega,by simp[h0],by simp[h5],by simp,fun j j1 j2=>?_⟩⟩
   by_cases ej:j=i
   ·rw[ej]; exact e
   ·exact hp j j1 (by omega)
  ·have e':=e
   rw[hcmp,hcmp0] at e'
   simp[h0,h5,h6,g,nthL_at hg,nthL_at hg0,ea,eb,ha,hb,nthL_at q1,nthL_at q2,e']
   refine⟨by omega,?_⟩
   have:(L.all fun v=>decide (limbsAt vs v=limbsAt vs (L.headD 0)))=false:=by
    rw[List.all_eq_false]
    refine⟨_,mi,?_⟩
    rw[show L.headD 0=gd L 0 by cases L <;> rfl]
    simpa using e
   simpa using this
 ·simp[h0,h5,h6,g]
  intro v hv'
  obtain⟨j,hj,rfl⟩:=List.mem_iff_getElem.1 hv'
  have e1:L[j]=gd L j:=by simp[gd,List.getD_eq_getElem?_getD,hj]
  have e0:L.head?.getD 0=gd L 0:=by cases L <;> rfl
  rw[e1,e0]
  by_cases j0:j=0
  ·rw[j0]
  ·exact hp j (by omega) (by omega)
end Go.Proofs.YtnbnhnjffiagmaaGreat
