/- Plans, looked at: expand.Check. -/
import Derived.Test.YtodjkjimaheggaaGreatSvG3

import Derived.Test.YtodjkjimaheggaaGreatFnBw
namespace Go.Proofs.YtodjkjimaheggaaGreat
open Go.Sv
set_option linter.unusedSimpArgs false
set_option maxRecDepth 10000
def z1c:LC:=(.seq (.ops [.z 4 (.move (.c (.i 0)))]) (.seq (.seq (.ops [.m 6 0,.z 7 (.lenSl (.t 6)),.z 8 (.move (.c (.i 0)))]) (.block 0 (.loop (.seq (.ops [.z 9 (.bin .lss false 3 (.t 8) (.t 7))]) (.seq (.cond (.t 9) .skip (.exit 0)) (.seq (.block 1 (.seq (.ops [.m 10 8,.m 5 10]) (.seq (.ops [.m 11 1,.m 12 0,.m 13 5,.z 14 (.ixAddr 3 (.t 12) (.t 13)),.z 15 (.loadN 3 (.t 14)),.z 16 (.callV (.t 11) [.t 15])]) (.cond (.t 16) (.seq (.ops [.m 17 5,.m 4 17]) .ret) .skip)))) (.ops [.z 18 (.bin .add true 3 (.t 8) (.c (.i 1))),.m 8 18]))))))) (.seq (.ops [.z 4 (.move (.c (.i (-1))))]) .ret)))
theorem r_slices_IndexFunc_api_Buf_api_Buf:z0f Tryz.prog 213=some ⟨19,z1c.r,[.tmp 4]⟩:=by kernel_rfl
theorem k_slices_IndexFunc_api_Buf_api_Buf:z1c.ok=true:=by kernel_rfl
def z13:LC:=(.seq (.ops [.z 4 (.move (.c (.bool false)))]) (.seq (.ops [.m 5 0,.m 6 1,.z 7 (.callV (.c (.fn (.func 213) [] [])) [.t 5,.t 6]),.z 8 (.bin .geq true 3 (.t 7) (.c (.i 0))),.m 4 8]) .ret))
theorem r_slices_ContainsFunc_api_Buf_api_Buf:z0f Tryz.prog 200=some ⟨9,z13.r,[.tmp 4]⟩:=by kernel_rfl
theorem k_slices_ContainsFunc_api_Buf_api_Buf:z13.ok=true:=by kernel_rfl
def z8k:LC:=(.seq (.ops [.z 1 (.box (.t 0)),.z 2 (.move (.c (.i 0)))]) (.seq (.seq (.ops [.f 3 0 1,.l 4 3,.z 5 (.bin .gtr true 3 (.t 4) (.c (.i 64))),.m 6 5,⟨some 7,(some (6,false)),.fieldAddr 1 (.t 1)⟩,⟨some 8,(some (6,false)),.load1 (.t 7)⟩,⟨some 9,(some (6,false)),.lenSl (.t 8)⟩,⟨some 10,(some (6,false)),.bin .gtr true 3 (.t 9) (.c (.i 32))⟩,.z 11 (.pick (.t 6) (.c (.bool true)) (.t 10)),.m 12 11,⟨some 13,(some (12,false)),.fieldAddr 2 (.t 1)⟩,⟨some 14,(some (12,false)),.load1 (.t 13)⟩,⟨some 15,(some (12,false)),.lenSl (.t 14)⟩,⟨some 16,(some (12,false)),.bin .gtr true 3 (.t 15) (.c (.i 65536))⟩,.z 17 (.pick (.t 12) (.c (.bool true)) (.t 16))]) (.cond (.t 17) (.seq (.ops [.z 2 (.move (.c (.i 3)))]) .ret) .skip)) (.seq (.seq (.ops [.f 18 1 1,.l 19 18,.z 20 (.callV (.c (.fn (.func 200) [] [])) [.t 19,(.c (.fn (.func 201) [] []))])]) (.cond (.t 20) (.seq (.ops [.z 2 (.move (.c (.i 3)))]) .ret) .skip)) (.seq (.seq (.ops [.f 21 0 1,.l 22 21,.z 23 (.bin .lss true 3 (.t 22) (.c (.i 0))),.m 24 23,⟨some 25,(some (24,false)),.fieldAddr 1 (.t 1)⟩,⟨some 26,(some (24,false)),.load1 (.t 25)⟩,⟨some 27,(some (24,false)),.callV (.c (.fn (.func 200) [] [])) [.t 26,(.c (.fn (.func 202) [] []))]⟩,.z 28 (.pick (.t 24) (.c (.bool true)) (.t 27))]) (.cond (.t 28) (.seq (.ops [.z 2 (.move (.c (.i 2)))]) .ret) .skip)) (.seq (.ops [.z 2 (.move (.c (.i 0)))]) .ret)))))
theorem r_limb_head:z0f Tryz.prog 196=some ⟨29,z8k.r,[.tmp 2]⟩:=by kernel_rfl
theorem k_limb_head:z8k.ok=true:=by kernel_rfl
def z91:LC:=(.seq (.ops [.z 1 (.box (.t 0)),.z 2 (.move (.c (.bool false)))]) (.seq (.ops [.f 3 0 1,.l 4 3,.z 5 (.bin .gtr true 3 (.t 4) (.c (.i 65536))),.m 2 5]) .ret))
theorem r_limb_head_1:z0f Tryz.prog 201=some ⟨6,z91.r,[.tmp 2]⟩:=by kernel_rfl
theorem k_limb_head_1:z91.ok=true:=by kernel_rfl
def z4p:LC:=(.seq (.ops [.z 1 (.box (.t 0)),.z 2 (.move (.c (.bool false)))]) (.seq (.ops [.f 3 0 1,.l 4 3,.z 5 (.bin .lss true 3 (.t 4) (.c (.i 1))),.m 6 5,⟨some 7,(some (6,false)),.fieldAddr 1 (.t 1)⟩,⟨some 8,(some (6,false)),.load1 (.t 7)⟩,⟨some 9,(some (6,false)),.bin .lss true 3 (.t 8) (.c (.i 1))⟩,.z 10 (.pick (.t 6) (.c (.bool true)) (.t 9)),.m 11 10,⟨some 12,(some (11,false)),.fieldAddr 1 (.t 1)⟩,⟨some 13,(some (11,false)),.load1 (.t 12)⟩,⟨some 14,(some (11,false)),.bin .gtr true 3 (.t 13) (.c (.i 3))⟩,.z 15 (.pick (.t 11) (.c (.bool true)) (.t 14)),.m 2 15]) .ret))
theorem r_limb_head_2:z0f Tryz.prog 202=some ⟨16,z4p.r,[.tmp 2]⟩:=by kernel_rfl
theorem k_limb_head_2:z4p.ok=true:=by kernel_rfl
def z9u:LC:=(.seq (.ops [.z 1 (.box (.t 0)),.z 2 (.move (.c (.i 0))),.z 3 (.move (.c (.i 0)))]) (.seq (.seq (.ops [.z 9 (.loadN 3 (.t 1)),.z 10 (.callV (.c (.fn (.func 196) [] [])) [.t 9]),.m 4 10]) (.seq (.ops [.m 11 4,.z 12 (.bin .neq true 35 (.t 11) (.c (.i 0)))]) (.cond (.t 12) (.seq (.ops [.m 13 4,.z 2 (.move (.c (.i 0))),.m 3 13]) .ret) .skip))) (.seq (.ops [.z 14 (.loadN 3 (.t 1)),.z 15 (.build [(.i 0),.nilSl,.nilSl,(.bool false),(.bool false),(.bool false),(.bool false),(.bool false),(.bool false),(.bool false),(.bool false),(.bool false),(.bool false),(.bool false),(.bool false),(.bool false),(.bool false),(.bool false),(.bool false),(.bool false),(.bool false),(.bool false),(.bool false),(.bool false),(.bool false),(.bool false),(.bool false),(.bool false),(.bool false),(.bool false),(.bool false),(.bool false),(.bool false),(.bool false),(.bool false),(.bool false),(.bool false),(.bool false),(.bool false),(.bool false),(.bool false),(.bool false),(.bool false),(.bool false),(.bool false),(.bool false),(.bool false),(.bool false),(.bool false),(.bool false),(.bool false),(.bool false),(.bool false),(.bool false),(.bool false),(.bool false),(.bool false),(.bool false),(.bool false),(.bool false),(.bool false),(.bool false),(.bool false),(.bool false),(.bool false),(.bool false),(.bool false),.nilSl] [(0,3,.t 14)]),.z 16 (.box (.t 15)),.m 5 16]) (.seq (.seq (.ops [.f 17 2 1,.l 18 17,.z 19 (.lenSl (.t 18)),.z 20 (.move (.c (.i 0)))]) (.block 0 (.loop (.seq (.ops [.z 21 (.bin .lss false 3 (.t 20) (.t 19))]) (.seq (.cond (.t 21) .skip (.exit 0)) (.seq (.block 1 (.seq (.ops [.m 22 20,.z 23 (.ixAddr 8 (.t 18) (.t 20)),.z 24 (.loadN 8 (.t 23)),.z 7 (.alloc [(.i 0),(.i 0),(.i 0),(.i 0),(.i 0),(.i 0),(.i 0),(.u 0)]),.m 6 22,⟨none,none,.store 8 (.t 7) (.t 24)⟩]) (.seq (.ops [.m 25 5,.z 26 (.loadN 8 (.t 7)),.z 27 (.callV (.c (.fn (.func 197) [] [])) [.t 25,.t 26]),.m 8 27]) (.seq (.ops [.m 28 8,.z 29 (.bin .neq true 35 (.t 28) (.c (.i 0)))]) (.cond (.t 29) (.seq (.ops [.m 30 6,.m 31 8,.m 2 30,.m 3 31]) .ret) .skip))))) (.ops [.z 32 (.bin .add true 3 (.t 20) (.c (.i 1))),.m 20 32]))))))) (.seq (.seq (.ops [.m 33 5,.z 34 (.nilChk (.t 33)),.f 35 67 34,.l 36 35,.z 37 (.lenSl (.t 36)),.z 38 (.bin .gtr true 3 (.t 37) (.c (.i 0)))]) (.cond (.t 38) (.seq (.ops [.f 39 2 1,.l 40 39,.z 41 (.lenSl (.t 40)),.m 2 41,.z 3 (.move (.c (.i 9)))]) .ret) .skip)) (.seq (.ops [.f 42 2 1,.l 43 42,.z 44 (.lenSl (.t 43)),.m 2 44,.z 3 (.move (.c (.i 0)))]) .ret))))))
theorem r_limb_Check:z0f Tryz.prog 174=some ⟨45,z9u.r,[.tmp 2,.tmp 3]⟩:=by kernel_rfl
theorem k_limb_Check:z9u.ok=true:=by kernel_rfl
def z1u:LC:=(.seq (.ops [.z 2 (.box (.t 0)),.z 3 (.box (.t 1)),.z 4 (.move (.c (.bool false)))]) (.seq (.seq (.ops [.f 6 0 3,.l 7 6,.z 8 (.bin .lss true 3 (.t 7) (.c (.i 0))),.m 9 8,⟨some 10,(some (9,false)),.fieldAddr 0 (.t 3)⟩,⟨some 11,(some (9,false)),.load1 (.t 10)⟩,⟨some 12,(some (9,false)),.fieldAddr 0 (.t 2)⟩,⟨some 13,(some (9,false)),.load1 (.t 12)⟩,⟨some 14,(some (9,false)),.lenSl (.t 13)⟩,⟨some 15,(some (9,false)),.bin .geq false 3 (.t 11) (.t 14)⟩,.z 16 (.pick (.t 9) (.c (.bool true)) (.t 15)),.m 17 16,⟨some 18,(some (17,false)),.fieldAddr 2 (.t 3)⟩,⟨some 19,(some (17,false)),.load1 (.t 18)⟩,⟨some 20,(some (17,false)),.bin .lss true 3 (.t 19) (.c (.i 1))⟩,.z 21 (.pick (.t 17) (.c (.bool true)) (.t 20)),.m 22 21,⟨some 23,(some (22,false)),.fieldAddr 2 (.t 3)⟩,⟨some 24,(some (22,false)),.load1 (.t 23)⟩,⟨some 25,(some (22,false)),.bin .gtr true 3 (.t 24) (.c (.i 32768))⟩,.z 26 (.pick (.t 22) (.c (.bool true)) (.t 25)),.m 27 26,⟨some 28,(some (27,false)),.fieldAddr 1 (.t 3)⟩,⟨some 29,(some (27,false)),.load1 (.t 28)⟩,⟨some 30,(some (27,false)),.bin .lss true 3 (.t 29) (.c (.i 0))⟩,.z 31 (.pick (.t 27) (.c (.bool true)) (.t 30))]) (.cond (.t 31) (.seq (.ops [.z 4 (.move (.c (.bool false)))]) .ret) .skip)) (.seq (.ops [.f 32 0 2,.l 33 32,.f 34 0 3,.l 35 34,.z 36 (.ixAddr 3 (.t 33) (.t 35)),.f 37 0 36,.l 38 37,.m 5 38]) (.seq (.ops [.f 39 1 3,.l 40 39,.m 41 5,.z 42 (.bin .leq false 3 (.t 40) (.t 41)),.m 43 42,⟨some 44,(some (43,true)),.fieldAddr 2 (.t 3)⟩,⟨some 45,(some (43,true)),.load1 (.t 44)⟩,⟨some 46,(some (43,true)),.move (.t 5)⟩,⟨some 47,(some (43,true)),.fieldAddr 1 (.t 3)⟩,⟨some 48,(some (43,true)),.load1 (.t 47)⟩,⟨some 49,(some (43,true)),.bin .sub false 3 (.t 46) (.t 48)⟩,⟨some 50,(some (43,true)),.bin .leq false 3 (.t 45) (.t 49)⟩,.z 51 (.pick (.t 43) (.t 50) (.c (.bool false))),.m 4 51]) .ret))))
theorem r_expand_lies:z0f Tryz.prog 175=some ⟨52,z1u.r,[.tmp 4]⟩:=by kernel_rfl
theorem k_expand_lies:z1u.ok=true:=by kernel_rfl
def z7w:LC:=(.seq (.ops [.z 3 (.box (.t 1)),.z 4 (.move (.c (.i 0)))]) (.seq (.seq (.ops [.m 13 0,.z 14 (.callV (.c (.fn (.func 119) [] [])) [.t 13,(.c .nilSl)]),.z 15 (.callV (.c (.fn (.func 118) [] [])) [.t 14]),.z 16 (.bin .neq true 35 (.t 15) (.c (.i 0))),.m 17 16,⟨some 18,(some (17,false)),.fieldAddr 0 (.t 3)⟩,⟨some 19,(some (17,false)),.load1 (.t 18)⟩,⟨some 20,(some (17,false)),.lenSl (.t 19)⟩,⟨some 21,(some (17,false)),.bin .lss true 3 (.t 20) (.c (.i 1))⟩,.z 22 (.pick (.t 17) (.c (.bool true)) (.t 21)),.m 23 22,⟨some 24,(some (23,false)),.fieldAddr 1 (.t 3)⟩,⟨some 25,(some (23,false)),.load1 (.t 24)⟩,⟨some 26,(some (23,false)),.lenSl (.t 25)⟩,⟨some 27,(some (23,false)),.move (.t 0)⟩,⟨some 28,(some (23,false)),.lenSl (.t 27)⟩,⟨some 29,(some (23,false)),.bin .neq false 3 (.t 26) (.t 28)⟩,.z 30 (.pick (.t 23) (.c (.bool true)) (.t 29))]) (.cond (.t 30) (.seq (.ops [.z 4 (.move (.c (.i 2)))]) .ret) .skip)) (.seq (.seq (.ops [.f 32 0 3,.l 33 32,.z 34 (.build [(.i 0),.nilSl,.nilSl] [(1,1,.t 33)]),.z 35 (.callV (.c (.fn (.func 174) [] [])) [.t 34]),.m 31 35,.z 36 (.extract 0 (.t 31)),.z 37 (.extract 1 (.t 31)),.m 5 36,.m 6 37]) (.seq (.ops [.m 38 6,.z 39 (.bin .neq true 35 (.t 38) (.c (.i 0)))]) (.cond (.t 39) (.seq (.ops [.z 4 (.move (.c (.i 2)))]) .ret) .skip))) (.seq (.seq (.ops [.m 40 0,.z 41 (.lenSl (.t 40)),.z 42 (.move (.c (.i 0)))]) (.block 0 (.loop (.seq (.ops [.z 43 (.bin .lss false 3 (.t 42) (.t 41))]) (.seq (.cond (.t 43) .skip (.exit 0)) (.seq (.block 1 (.seq (.ops [.m 44 42,.z 45 (.ixAddr 3 (.t 40) (.t 42)),.z 46 (.loadN 3 (.t 45)),.z 8 (.alloc [(.i 0),(.bool false),(.i 0)]),.m 7 44,⟨none,none,.store 3 (.t 8) (.t 46)⟩]) (.seq (.ops [.f 47 1 3,.l 48 47,.m 49 7,.z 50 (.ixAddr 3 (.t 48) (.t 49)),.z 51 (.loadN 3 (.t 50)),.z 9 (.alloc [(.i 0),(.i 0),(.i 0)]),⟨none,none,.store 3 (.t 9) (.t 51)⟩]) (.seq (.seq (.ops [.z 52 (.loadN 8 (.t 3)),.z 53 (.loadN 3 (.t 9)),.z 54 (.callV (.c (.fn (.func 175) [] [])) [.t 52,.t 53]),.z 55 (.un .not (.t 54)),.m 56 55,⟨some 57,(some (56,false)),.fieldAddr 2 (.t 9)⟩,⟨some 58,(some (56,false)),.load1 (.t 57)⟩,⟨some 59,(some (56,false)),.fieldAddr 0 (.t 8)⟩,⟨some 60,(some (56,false)),.load1 (.t 59)⟩,⟨some 61,(some (56,false)),.bin .neq false 3 (.t 58) (.t 60)⟩,.z 62 (.pick (.t 56) (.c (.bool true)) (.t 61))]) (.cond (.t 62) (.seq (.ops [.z 4 (.move (.c (.i 2)))]) .ret) .skip)) (.seq (.ops [.f 63 0 3,.l 64 63,.f 65 0 9,.l 66 65,.z 67 (.ixAddr 3 (.t 64) (.t 66)),.z 68 (.loadN 3 (.t 67)),.z 10 (.alloc [(.i 0),(.i 0),(.bool false)]),⟨none,none,.store 3 (.t 10) (.t 68)⟩]) (.seq (.ops [.f 69 1 10,.l 70 69,.z 71 (.bin .eql true 3 (.t 70) (.c (.i 1))),.m 72 71,⟨some 73,(some (72,true)),.loadN 3 (.t 8)⟩,⟨some 74,(some (72,true)),.callV (.c (.fn (.func 172) [] [])) [.t 73]⟩,⟨some 75,(some (72,true)),.un .not (.t 74)⟩,.z 76 (.pick (.t 72) (.t 75) (.c (.bool false))),.m 77 76,⟨some 78,(some (77,false)),.fieldAddr 1 (.t 10)⟩,⟨some 79,(some (77,false)),.load1 (.t 78)⟩,⟨some 80,(some (77,false)),.bin .eql true 3 (.t 79) (.c (.i 2))⟩,⟨some 81,(some (77,false)),.move (.t 80)⟩,⟨some 82,(some (81,true)),.loadN 3 (.t 8)⟩,⟨some 83,(some (81,true)),.callV (.c (.fn (.func 172) [] [])) [.t 82]⟩,⟨some 84,(some (77,false)),.pick (.t 81) (.t 83) (.c (.bool false))⟩,.z 85 (.pick (.t 77) (.c (.bool true)) (.t 84)),.m 86 85,⟨some 87,(some (86,false)),.fieldAddr 1 (.t 8)⟩,⟨some 88,(some (86,false)),.load1 (.t 87)⟩,⟨some 89,(some (86,false)),.fieldAddr 2 (.t 10)⟩,⟨some 90,(some (86,false)),.load1 (.t 89)⟩,⟨some 91,(some (86,false)),.bin .neq false 4 (.t 88) (.t 90)⟩,.z 92 (.pick (.t 86) (.c (.bool true)) (.t 91))]) (.cond (.t 92) (.seq (.ops [.z 4 (.move (.c (.i 2)))]) .ret) .skip))))))) (.ops [.z 93 (.bin .add true 3 (.t 42) (.c (.i 1))),.m 42 93]))))))) (.seq (.seq (.ops [.f 94 2 3,.z 95 (.loadN 6 (.t 94)),.z 96 (.move (.c (.i 0)))]) (.block 2 (.loop (.seq (.ops [.z 97 (.bin .lss true 3 (.t 96) (.c (.i 2)))]) (.seq (.cond (.t 97) .skip (.exit 2)) (.seq (.block 3 (.seq (.ops [.m 98 96,.z 99 (.ixArr true 2 3 (.t 95) (.t 96)),.z 12 (.alloc [(.i 0),(.i 0),(.i 0)]),.m 11 98,⟨none,none,.store 3 (.t 12) (.t 99)⟩]) (.seq (.ops [.z 100 (.loadN 8 (.t 3)),.z 101 (.loadN 3 (.t 12)),.z 102 (.callV (.c (.fn (.func 175) [] [])) [.t 100,.t 101]),.z 103 (.un .not (.t 102)),.m 104 103,⟨some 105,(some (104,false)),.fieldAddr 0 (.t 3)⟩,⟨some 106,(some (104,false)),.load1 (.t 105)⟩,⟨some 107,(some (104,false)),.fieldAddr 0 (.t 12)⟩,⟨some 108,(some (104,false)),.load1 (.t 107)⟩,⟨some 109,(some (104,false)),.ixAddr 3 (.t 106) (.t 108)⟩,⟨some 110,(some (104,false)),.fieldAddr 1 (.t 109)⟩,⟨some 111,(some (104,false)),.load1 (.t 110)⟩,⟨some 112,(some (104,false)),.bin .eql true 3 (.t 111) (.c (.i 1))⟩,.z 113 (.pick (.t 104) (.c (.bool true)) (.t 112)),.m 114 113,⟨some 115,(some (114,false)),.fieldAddr 0 (.t 3)⟩,⟨some 116,(some (114,false)),.load1 (.t 115)⟩,⟨some 117,(some (114,false)),.fieldAddr 0 (.t 12)⟩,⟨some 118,(some (114,false)),.load1 (.t 117)⟩,⟨some 119,(some (114,false)),.ixAddr 3 (.t 116) (.t 118)⟩,⟨some 120,(some (114,false)),.fieldAddr 2 (.t 119)⟩,⟨some 121,(some (114,false)),.load1 (.t 120)⟩,⟨some 122,(some (114,false)),.move (.t 11)⟩,⟨some 123,(some (114,false)),.bin .eql true 3 (.t 122) (.c (.i 1))⟩,⟨some 124,(some (114,false)),.bin .neq false 4 (.t 121) (.t 123)⟩,.z 125 (.pick (.t 114) (.c (.bool true)) (.t 124))]) (.cond (.t 125) (.seq (.ops [.z 4 (.move (.c (.i 2)))]) .ret) .skip)))) (.ops [.z 126 (.bin .add true 3 (.t 96) (.c (.i 1))),.m 96 126]))))))) (.seq (.ops [.z 4 (.move (.c (.i 0)))]) .ret))))))
theorem r_expand_Check:z0f Tryz.prog 125=some ⟨127,z7w.r,[.tmp 4]⟩:=by kernel_rfl
theorem k_expand_Check:z7w.ok=true:=by kernel_rfl
def z79:LC:=(.seq (.ops [.z 3 (.box (.t 1)),.z 4 (.move (.c (.bool false)))]) (.seq (.ops [.f 5 1 3,.l 6 5,.z 7 (.bin .geq true 3 (.t 6) (.c (.i 0))),.m 8 7,⟨some 9,(some (8,true)),.fieldAddr 1 (.t 3)⟩,⟨some 10,(some (8,true)),.load1 (.t 9)⟩,⟨some 11,(some (8,true)),.move (.t 0)⟩,⟨some 12,(some (8,true)),.lenSl (.t 11)⟩,⟨some 13,(some (8,true)),.bin .lss false 3 (.t 10) (.t 12)⟩,.z 14 (.pick (.t 8) (.t 13) (.c (.bool false))),.m 15 14,⟨some 16,(some (15,true)),.move (.t 0)⟩,⟨some 17,(some (15,true)),.fieldAddr 1 (.t 3)⟩,⟨some 18,(some (15,true)),.load1 (.t 17)⟩,⟨some 19,(some (15,true)),.ixAddr 3 (.t 16) (.t 18)⟩,⟨some 20,(some (15,true)),.fieldAddr 1 (.t 19)⟩,⟨some 21,(some (15,true)),.load1 (.t 20)⟩,⟨some 22,(some (15,true)),.un .not (.t 21)⟩,.z 23 (.pick (.t 15) (.t 22) (.c (.bool false))),.m 4 23]) .ret))
theorem r_expand_Public:z0f Tryz.prog 126=some ⟨24,z79.r,[.tmp 4]⟩:=by kernel_rfl
theorem k_expand_Public:z79.ok=true:=by kernel_rfl
def z8p:LC:=(.seq (.ops [.z 4 (.box (.t 1)),.z 5 (.box (.t 2)),.z 6 (.move (.c (.i 0))),.z 7 (.alloc [(.i 0),(.i 0),(.i 0)])]) (.seq (.seq (.ops [.m 8 0,.z 9 (.loadN 7 (.t 4)),.z 10 (.callV (.c (.fn (.func 126) [] [])) [.t 8,.t 9])]) (.cond (.t 10) (.seq (.draw [(.f 11 2 5,[]),(.z 12 (.ixAddrArr 2 3 (.t 11) (.c (.i 0))),[]),(.z 13 (.loadN 3 (.t 12)),[]),(.z 6 (.move (.c (.i 16))),[]),(⟨none,none,.store 3 (.t 7) (.t 13)⟩,[])]) .ret) .skip)) (.seq (.draw [(.f 14 2 5,[]),(.z 15 (.ixAddrArr 2 3 (.t 14) (.c (.i 1))),[]),(.z 16 (.loadN 3 (.t 15)),[]),(.z 6 (.move (.c (.i 40))),[]),(⟨none,none,.store 3 (.t 7) (.t 16)⟩,[])]) .ret)))
theorem r_expand_Base:z0f Tryz.prog 59=some ⟨17,z8p.r,[.tmp 6,.cellN 7 3]⟩:=by kernel_rfl
theorem k_expand_Base:z8p.ok=true:=by kernel_rfl
def z7y:LC:=(.seq (.ops [.z 6 (.box (.t 1)),.z 7 (.box (.t 2)),.z 10 (.move (.c (.bool false)))]) (.seq (.seq (.ops [.m 13 0,.z 14 (.loadN 8 (.t 7)),.z 15 (.callV (.c (.fn (.func 125) [] [])) [.t 13,.t 14]),.z 16 (.bin .neq true 35 (.t 15) (.c (.i 0))),.m 17 16,⟨some 18,(some (17,false)),.move (.t 4)⟩,⟨some 19,(some (17,false)),.bin .lss true 3 (.t 18) (.c (.i 1))⟩,.z 20 (.pick (.t 17) (.c (.bool true)) (.t 19)),.m 21 20,⟨some 22,(some (21,false)),.move (.t 3)⟩,⟨some 23,(some (21,false)),.bin .lss true 3 (.t 22) (.c (.i 0))⟩,.z 24 (.pick (.t 21) (.c (.bool true)) (.t 23)),.m 25 24,⟨some 26,(some (25,false)),.move (.t 3)⟩,⟨some 27,(some (25,false)),.bin .gtr true 3 (.t 26) (.c (.i 4))⟩,.z 28 (.pick (.t 25) (.c (.bool true)) (.t 27))]) (.cond (.t 28) (.seq (.ops [.z 10 (.move (.c (.bool false)))]) .ret) .skip)) (.seq (.ops [.m 30 0,.z 31 (.loadN 7 (.t 6)),.z 32 (.loadN 8 (.t 7)),.z 33 (.callV (.c (.fn (.func 59) [] [])) [.t 30,.t 31,.t 32]),.m 29 33,.z 34 (.extract 0 (.t 29)),.z 35 (.extract 1 (.t 29)),.z 12 (.alloc [(.i 0),(.i 0),(.i 0)]),.m 11 34,⟨none,none,.store 3 (.t 12) (.t 35)⟩]) (.seq (.ops [.m 36 4,.f 37 2 12,.l 38 37,.z 39 (.bin .leq false 3 (.t 36) (.t 38)),.m 10 39]) .ret))))
theorem r_expand_Ready:z0f Tryz.prog 58=some ⟨40,z7y.r,[.tmp 10]⟩:=by kernel_rfl
theorem k_expand_Ready:z7y.ok=true:=by kernel_rfl
def plV (bs:List Bf) (ps:List Pc) (w0 w1:Pc):List LV:=[.lst (bfC bs) bs.length 3,.lst (pcC ps) ps.length 3,.i w0.buf,.i w0.at_,.i w0.size,.i w1.buf,.i w1.at_,.i w1.size]
theorem Pc.f_len (p:Pc):p.f.length=3:=rfl
theorem zd1 (l:List Pc):dats (pcC l)=true:=zc0 (fun _=>rfl) l
theorem pc_three {l:List Pc} {i:Nat} {v:Pc} (h:l[i]?=some v):((pcC l).drop (i * 3)).take 3=v.f:=zdu Pc.f_len h
theorem pc_lt {l:List Pc} {i:Nat} (h:i < l.length):i * 3+3≤(pcC l).length:=zty Pc.f_len h
theorem at_gpc {l:List Pc} {n:Nat} (h:n < l.length):l[n]?=some (gpc l n):=by simp[gpc,List.getD_eq_getElem?_getD,h]
theorem zao (bs:List Bf) (ps:List Pc) (w0 w1:Pc):dats (plV bs ps w0 w1)=true:=by simp[plV,dats,LV.dat,z0o,zd1]
theorem zow {G:z03} {l:List Bf} {f:Nat} {a b:List LV} {p:Bf→Bool} {K:LV→z03→Prop} (hl:l.length≤9223372036854775807)
  (hf:∀ v∈l,∀ K':LV→z03→Prop,K' (.bool (p v)) G→z0k Tryz.prog (.fn f) (a++[.agg v.f]++b) G K') (k:K (.i (ixZ p l)) G):z0k Tryz.prog (.fn 213) [.lst (bfC l) l.length 3,.fn (.func f) a b] G K:=by
 refine z01 r_slices_IndexFunc_api_Buf_api_Buf k_slices_IndexFunc_api_Buf_api_Buf (by simp) ?_
 simp[z1c]
 refine z0m (fun ρ D G' N=>∃ i:Nat,D=[]∧G'=G∧N+i=l.length∧lk ρ 0=.lst (bfC l) l.length 3∧lk ρ 1=.fn (.func f) a b∧lk ρ 7=.i l.length∧lk ρ 8=.i i∧∀ j b,j < i→l[j]?=some b→p b=false) (N:=l.length) ⟨0,by simp⟩ ?_
 rintro N ρ D G' ⟨i,rfl,rfl,hN,h0,h1,h7,h8,hn⟩ Nx hNx
 by_cases hi:l.length≤i
 ·have g:¬ i < l.length:=by omega
  simp[h0,h1,h7,h8,g]
  rw[←zql hi hn]
  exact k
 ·have g:i < l.length:=by omega
  have hg:=List.getElem?_eq_getElem g
  have hq:=zho g
  simp[h0,h1,h7,h8,g,zq4 hg,hq]
  have hh:=hf l[i] (List.getElem_mem g)
  simp only[List.append_assoc,List.singleton_append] at hh
  refine hh _ ?_
  cases hb:p l[i] with
  | true =>
   simp
   rw[←ixZ_at hg hb hn]
   exact k
  | false =>
   simp[h8]
   refine⟨by omega,hNx _ _ _ ⟨N - 1,by omega,i+1,rfl,rfl,by omega,by simp[h0],by simp[h1],by simp[h7],by simp,fun j b hj hjb=>?_⟩⟩
   by_cases e:j=i
   ·subst e; rw[hg] at hjb; cases hjb; exact hb
   ·exact hn j b (by omega) hjb
theorem zbk {G:z03} {l:List Bf} {f:Nat} {a b:List LV} {p:Bf→Bool} {K:LV→z03→Prop} (hl:l.length≤9223372036854775807)
  (hf:∀ v∈l,∀ K':LV→z03→Prop,K' (.bool (p v)) G→z0k Tryz.prog (.fn f) (a++[.agg v.f]++b) G K') (k:K (.bool (l.any p)) G):z0k Tryz.prog (.fn 200) [.lst (bfC l) l.length 3,.fn (.func f) a b] G K:=by
 refine z01 r_slices_ContainsFunc_api_Buf_api_Buf k_slices_ContainsFunc_api_Buf_api_Buf (by simp) ?_
 simp[z13]
 refine zow hl hf ?_
 simp
 rw[zv7]
 exact k
theorem zhm (b:Bf):FnS Tryz.prog 201 [.agg b.f] (.bool (decide (65536 < b.size))) []:=by
 refine FnS.val rfl (z01 r_limb_head_1 k_limb_head_1 (by simp) ?_)
 simp[z91,Bf.f]
theorem zi7 (b:Bf):FnS Tryz.prog 202 [.agg b.f] (.bool (decide (b.size < 1) || (decide (b.kind < 1) || decide (3 < b.kind)))) []:=by
 refine FnS.val rfl (z01 r_limb_head_2 k_limb_head_2 (by simp) ?_)
 by_cases h1:b.size < 1
 ·simp[z4p,Bf.f,h1]
 by_cases h2:b.kind < 1
 ·simp[z4p,Bf.f,h1,h2]
 simp[z4p,Bf.f,h1,h2]
theorem zl8 (bs:List Bf) (hl:bs.length≤9223372036854775807):FnS Tryz.prog 196 [.agg [.i 0,.lst (bfC bs) bs.length 3,.nilSl]] (.i (zi9 bs)) []:=by
 refine FnS.val rfl (z01 r_limb_head k_limb_head (by simp) ?_)
 by_cases h1:32 < bs.length
 ·have h1':(32:Int) < bs.length:=by omega
  simp[z8k,zi9,h1,h1']
 have h1':¬ (32:Int) < bs.length:=by omega
 simp[z8k,h1,h1']
 refine zbk (a:=[]) (b:=[]) (p:=fun b=>decide (65536 < b.size)) hl (fun v hv K' k=>z02 (zhm v) (bors_self _ rfl) k) ?_
 by_cases h2:(bs.any fun b=>decide (65536 < b.size))=true
 ·simp only[zi9,if_neg h1,if_pos h2]
  rw[h2]; simp
 simp only[zi9,if_neg h1,if_neg h2]
 rw[Bool.not_eq_true] at h2
 rw[h2]; simp
 generalize hBB:(bs.any fun b=>decide (b.size < 1) || (decide (b.kind < 1) || decide (3 < b.kind)))=B3
 refine zbk (a:=[]) (b:=[]) (p:=fun b=>decide (b.size < 1) || (decide (b.kind < 1) || decide (3 < b.kind))) hl (fun v hv K' k=>z02 (zi7 v) (bors_self _ rfl) k) ?_
 rw[hBB]
 cases B3 with
 | true =>
  simp at hBB ⊢
  obtain⟨x,hx,h⟩:=hBB
  exact⟨x,hx,fun _ _=>by omega⟩
 | false=>simp; simpa using hBB
theorem eqb (a b:Bool):eqA Tryz.prog false 4 (.bool a) (.bool b)=some (a==b):=by cases a <;> cases b <;> kernel_rfl
theorem zd8 (bs:List Bf) (hl:bs.length≤9223372036854775807):FnS Tryz.prog 174 [.agg [.i 0,.lst (bfC bs) bs.length 3,.nilSl]] (.tup [.i 0,.i (zi9 bs)]) []:=by
 refine FnS.val rfl (z01 r_limb_Check k_limb_Check (by simp) ?_)
 simp[z9u]
 refine z02 (zl8 bs hl) (bors_self _ (by simp[dats,LV.dat,z0o])) ?_
 by_cases h:zi9 bs=0
 ·simp[h]
  refine z0m (fun ρ D G N=>D=[]∧lk ρ 1=.ptr 0 0∧lk ρ 5=.ptr 1 0∧lk ρ 19=.i 0∧lk ρ 20=.i 0∧G[0]?=some (.cells [.i 0,.lst (bfC bs) bs.length 3,.nilSl] 0)∧∃ l st,G[1]?=some (.cells ((.i 0)::(.lst (bfC bs) bs.length 3)::.nilSl::l) st)∧l[64]?=some .nilSl) (N:=0) ⟨rfl,by simp,by simp,by simp,by simp,by simp,_,_,rfl,rfl⟩ ?_
  rintro N ρ D G ⟨rfl,h1,h5,h19,h20,hG0,l,st,hG1,hl64⟩ Nx hNx
  simp[h1,h5,h19,h20,hG0,hG1,z05 hl64]
 ·simp[h]
theorem z7u (bs:List Bf) (ps:List Pc) (w0 w1 x:Pc) (hs:∀ b∈bs,b.size≤65536):FnS Tryz.prog 175 [.agg (plV bs ps w0 w1),.agg x.f] (.bool (zc5 bs x)) []:=by
 refine FnS.val rfl (z01 r_expand_lies k_expand_lies (by simp) ?_)
 by_cases h1:x.buf < 0
 ·simp[z1u,plV,Pc.f,zc5,h1]; omega
 by_cases h2:(bs.length:Int)≤x.buf
 ·simp[z1u,plV,Pc.f,zc5,h1,h2]; omega
 by_cases h3:x.size < 1
 ·simp[z1u,plV,Pc.f,zc5,h1,h2,h3]; omega
 by_cases h4:32768 < x.size
 ·simp[z1u,plV,Pc.f,zc5,h1,h2,h3,h4]; omega
 by_cases h5:x.at_ < 0
 ·simp[z1u,plV,Pc.f,zc5,h1,h2,h3,h4,h5]; omega
 obtain⟨n,hn⟩:=Int.eq_ofNat_of_zero_le (show 0≤x.buf by omega)
 have hlt:n < bs.length:=by omega
 have q0:=zbi (z33 hlt)
 have hq:=zho hlt
 have e1:(0:Int)≤x.buf:=by omega
 have e2:x.buf < (bs.length:Int):=by omega
 have e3:(1:Int)≤x.size:=by omega
 have e4:x.size≤32768:=by omega
 have e5:(0:Int)≤x.at_:=by omega
 by_cases h6:x.at_≤(gbf bs n).size
 ·simp[z1u,plV,Pc.f,zc5,h1,h2,h3,h4,h5,hn,hlt,z05 q0,h6]
  have:=hs _ (List.mem_of_getElem? (z33 hlt))
  refine⟨fun _=>by omega,fun q=>absurd q (by omega),by omega,?_⟩
  simp[e3,e4,e5]
 ·simp[z1u,plV,Pc.f,zc5,h1,h2,h3,h4,h5,hn,hlt,z05 q0,h6]
theorem zr5 {bs:List Bf} (h:zi9 bs=0):∀ b∈bs,b.size≤65536:=fun b hb=>by
 unfold zi9 at h
 by_cases h1:32 < bs.length
 ·rw[if_pos h1] at h; omega
 by_cases h2:(bs.any fun b=>decide (65536 < b.size))=true
 ·rw[if_neg h1,if_pos h2] at h; omega
 rw[Bool.not_eq_true,List.any_eq_false] at h2
 have:=h2 b hb
 simp at this; omega
noncomputable def zk5 (vs:List Vr) (bs:List Bf) (ps:List Pc) (w0 w1:Pc):Int:=if zen vs bs ps w0 w1=true then 0 else 2
theorem zbz {bs:List Bf} {x:Pc} (h:zc5 bs x=true):∃ n:Nat,x.buf=n∧n < bs.length∧1≤x.size∧x.size≤32768∧0≤x.at_∧x.at_≤(gbf bs n).size∧x.size≤(gbf bs n).size - x.at_:=by
 simp only[zc5,Bool.and_eq_true,decide_eq_true_eq] at h
 obtain⟨h1,h2,h3,h4,h5,h6,h7⟩:=h
 obtain⟨n,hn⟩:=Int.eq_ofNat_of_zero_le h1
 rw[hn] at h6 h7
 exact⟨n,hn,by omega,h3,h4,h5,h6,h7⟩
theorem zfk (vs:List Vr) (bs:List Bf) (ps:List Pc) (w0 w1:Pc) (hv:vs.length≤1000000) (hb:bs.length≤9223372036854775807) :
  FnS Tryz.prog 125 [.lst (vsC vs) vs.length 3,.agg (plV bs ps w0 w1)] (.i (zk5 vs bs ps w0 w1)) []:=by
 refine FnS.val rfl (z01 r_expand_Check k_expand_Check (by simp) ?_)
 have bad:zen vs bs ps w0 w1=false→zk5 vs bs ps w0 w1=2:=fun h=>by simp[zk5,h]
 simp[z7w]
 refine zs0 (args':=[.lst (vsC vs) vs.length 3,.lst (osC []) ([]:List Ko).length 7]) (fun c r h=>?_) ?_
 ·cases h with
  | cons e1 es=>cases es with
   | cons e2 e3=>exact .cons e1 (.cons (by cases e2; exact .lstNil) e3)
 refine z1p (z9b vs [] hv (by simp)) (by simp[dats,LV.dat,z1f,osC]) ?_
 rw[List.append_nil]
 simp
 refine z02 (z9f vs (z2s 0 vs) [] (by omega)) (bors_self _ (by simp[kerC,dats,LV.dat,z1f,zb2])) ?_
 simp only[chkE,zts]
 cases hvB:z81 vs with
 | false=>simp; exact (bad (by simp[zen,hvB])).symm
 | true =>
 by_cases g1:(bs.length:Int) < 1
 ·simp[plV,g1]; exact (bad (by simp[zen,show ¬ 1≤bs.length by omega])).symm
 by_cases g2:ps.length=vs.length
 case neg =>
  have g2':¬ (ps.length:Int)=(vs.length:Int):=by omega
  simp[plV,g1,g2,g2']; exact (bad (by simp[zen,g2])).symm
 simp[plV,g1,g2]
 refine z02 (zd8 bs hb) (bors_self _ (by simp[dats,LV.dat,z0o])) ?_
 by_cases g3:zi9 bs=0
 case neg=>simp[g3]; exact (bad (by simp[zen,g3])).symm
 simp[g3]
 have hsz:∀ b∈bs,b.size≤65536:=zr5 g3
 refine z0m (fun ρ D G N=>∃ i:Nat,D=[]∧N+i=vs.length∧lk ρ 3=.ptr 0 0∧lk ρ 40=.lst (vsC vs) vs.length 3∧lk ρ 41=.i vs.length∧lk ρ 42=.i i∧0 < G.length∧G[0]?=some (.cells (plV bs ps w0 w1) 0)∧∀ j,j < i→zb8 bs (gv vs j) (gpc ps j)=true) (N:=vs.length)
  ⟨0,by simp[plV,g2]⟩ ?_
 rintro N ρ D G ⟨i,rfl,hN,h3,h40,h41,h42,hl,hG,hpl⟩ Nx hNx
 by_cases g:i < vs.length
 ·have q3:=zcm (zbw g)
  have hq:=zsl g
  have gp:i < ps.length:=by omega
  have p3:=pc_three (at_gpc gp)
  have hpq:=pc_lt gp
  have hvf:(gv vs i).f=[.i (gv vs i).limbs,.bool (gv vs i).sec,.i (gv vs i).mode]:=rfl
  have hpf:(gpc ps i).f=[.i (gpc ps i).buf,.i (gpc ps i).at_,.i (gpc ps i).size]:=rfl
  have no:zb8 bs (gv vs i) (gpc ps i)=false→zk5 vs bs ps w0 w1=2:=fun h=>bad (by
   have:((List.range vs.length).all fun i=>zb8 bs (gv vs i) (gpc ps i))=false:=by
    rw[List.all_eq_false]
    exact⟨i,List.mem_range.2 g,by simp[h]⟩
   simp[zen,this])
  have nx:zb8 bs (gv vs i) (gpc ps i)=true→∀ ρ' G',lk ρ' 3=.ptr 0 0→lk ρ' 40=.lst (vsC vs) vs.length 3→lk ρ' 41=.i vs.length→lk ρ' 42=.i ((i:Int)+1)→0 < G'.length→G'[0]?=some (.cells (plV bs ps w0 w1) 0)→Nx ρ' [] G':=fun h ρ' G' e3 e40 e41 e42 el eG =>
   hNx _ _ _ ⟨N - 1,by omega,i+1,rfl,by omega,e3,e40,e41,by rw[e42]; simp,el,eG,fun j hj=>by
    by_cases e:j=i
    ·rw[e]; exact h
    ·exact hpl j (by omega)⟩
  generalize gv vs i=v at *
  generalize gpc ps i=x at *
  have p0:∀ y:List LObj,(G++y)[0]?=some _:=fun y=>(old1 hl).trans hG
  simp[h3,h40,h41,h42,g,gp,q3,p3,hq,hpq,hvf,hpf,↓p0,plV]
  have hL:=z7u bs ps w0 w1 x hsz
  rw[plV,Pc.f] at hL
  refine z02 hL (bors_self _ (by simp[dats,LV.dat,z0o,zd1])) ?_
  cases hlB:zc5 bs x with
  | false=>simp; exact (no (by simp[zb8,hlB])).symm
  | true =>
  obtain⟨n,hn,hnl,s1,s2,s3,s4,s5⟩:=zbz hlB
  by_cases g4:x.size=v.limbs
  case neg=>simp[g4]; exact (no (by simp[zb8,g4])).symm
  have b3:=zq4 (z33 hnl)
  have hbq:=zho hnl
  have hbf:(gbf bs n).f=[.i (gbf bs n).size,.i (gbf bs n).kind,.bool (gbf bs n).sec]:=rfl
  have hpB:zb8 bs v x=(!(decide ((gbf bs n).kind=1) && !z2v v) && (!(decide ((gbf bs n).kind=2) && z2v v) && (v.sec==(gbf bs n).sec))):=by simp[zb8,hlB,g4,hn]
  rw[hpB] at no nx
  generalize gbf bs n=b at *
  simp[g4,h3,↓p0,plV,hn,hnl,b3,hbq,hbf]
  have hgv:∀ {G':z03} {K':LV→z03→Prop},K' (.bool (z2v v)) G'→z0k Tryz.prog (.fn 172) [.agg [.i v.limbs,.bool v.sec,.i v.mode]] G' K':=fun k=>z02 (z9x v) (bors_self _ rfl) k
  have nx':∀ (h:(!(decide (b.kind=1) && !z2v v) && (!(decide (b.kind=2) && z2v v) && (v.sec==b.sec)))=true) (ρ':LEnv) (x:List LObj),lk ρ' 3=.ptr 0 0→lk ρ' 40=.lst (vsC vs) vs.length 3→lk ρ' 41=.i vs.length→lk ρ' 42=.i ((i:Int)+1)→Nx ρ' [] (G++x):=fun h ρ' x e3 e40 e41 e42=>nx h _ _ e3 e40 e41 e42 (by simp; omega) (p0 x)
  by_cases k1:b.kind=1
  ·simp[k1]
   refine hgv ?_
   cases hg:z2v v with
   | false=>simp[k1,hg] at no ⊢; exact no.symm
   | true =>
    simp[k1,hg] at no nx' ⊢
    cases hs:(v.sec==b.sec) with
    | false=>simp[eqb,hs] at no ⊢; exact (no (by simpa using hs)).symm
    | true =>
     simp[eqb,hs,h42]
     refine⟨by omega,nx' (by simpa using hs) _ _ (by simp[h3]) (by simp[h40]) (by simp[h41]) (by simp)⟩
  ·by_cases k2:b.kind=2
   ·simp[k2]
    refine hgv ?_
    cases hg:z2v v with
    | true=>simp[k2,hg] at no ⊢; exact no.symm
    | false =>
     simp[k2,hg] at no nx' ⊢
     cases hs:(v.sec==b.sec) with
     | false=>simp[eqb,hs] at no ⊢; exact (no (by simpa using hs)).symm
     | true =>
      simp[eqb,hs,h42]
      refine⟨by omega,nx' (by simpa using hs) _ _ (by simp[h3]) (by simp[h40]) (by simp[h41]) (by simp)⟩
   ·simp[k1,k2] at no nx' ⊢
    cases hs:(v.sec==b.sec) with
    | false=>simp[eqb,hs] at no ⊢; exact (no (by simpa using hs)).symm
    | true =>
     simp[eqb,hs,h42]
     refine⟨by omega,nx' (by simpa using hs) _ _ (by simp[h3]) (by simp[h40]) (by simp[h41]) (by simp)⟩
 ·have gi:i=vs.length:=by omega
  subst gi
  simp[h3,h40,h41,h42,hG,plV]
  refine z0m (fun ρ D G N=>∃ i:Nat,D=[]∧N+i=2∧lk ρ 3=.ptr 0 0∧lk ρ 95=.agg [.i w0.buf,.i w0.at_,.i w0.size,.i w1.buf,.i w1.at_,.i w1.size]∧lk ρ 96=.i i∧0 < G.length∧G[0]?=some (.cells (plV bs ps w0 w1) 0)∧(0 < i→zd2 bs false w0=true)∧(1 < i→zd2 bs true w1=true)) (N:=2)
   ⟨0,rfl,rfl,by simp[h3],by simp,by simp,hl,hG,fun q=>absurd q (by omega),fun q=>absurd q (by omega)⟩ ?_
  clear h3 h40 h41 h42 hG hl
  rintro N ρ D G ⟨i,rfl,hN2,h3,h95,h96,hl,hG,hw0,hw1⟩ Nx hNx
  have p0:∀ y:List LObj,(G++y)[0]?=some _:=fun y=>(old1 hl).trans hG
  have hi:i=0∨i=1∨i=2:=by omega
  rcases hi with rfl | rfl | rfl
  ·have no:zd2 bs false w0=false→zk5 vs bs ps w0 w1=2:=fun h=>bad (by simp[zen,h])
   have nx:zd2 bs false w0=true→∀ (ρ':LEnv) (y:List LObj),lk ρ' 3=.ptr 0 0→lk ρ' 95=.agg [.i w0.buf,.i w0.at_,.i w0.size,.i w1.buf,.i w1.at_,.i w1.size]→lk ρ' 96=.i (0+1)→Nx ρ' [] (G++y):=fun h ρ' y e3 e95 e96 =>
    hNx _ _ _ ⟨N - 1,by omega,0+1,rfl,by omega,e3,e95,by rw[e96]; rfl,by simp; omega,p0 y,fun _=>h,fun q=>absurd q (by omega)⟩
   simp[h3,h95,h96,↓p0,plV]
   have hL:=z7u bs ps w0 w1 w0 hsz
   rw[plV,Pc.f] at hL
   refine z02 hL (bors_self _ (by simp[dats,LV.dat,z0o,zd1])) ?_
   cases hlB:zc5 bs w0 with
   | false=>simp; exact (no (by simp[zd2,hlB])).symm
   | true =>
   obtain⟨n,hn,hnl,s1,s2,s3,s4,s5⟩:=zbz hlB
   have b1:=zej (z33 hnl)
   have b2:=bf_at2 (z33 hnl)
   have hbq:=zho hnl
   have hW:zd2 bs false w0=(!decide ((gbf bs n).kind=1) && ((gbf bs n).sec==false)):=by simp[zd2,hlB,hn]
   rw[hW] at no nx
   generalize gbf bs n=b at *
   by_cases k1:b.kind=1
   ·simp[h3,↓p0,plV,hn,hnl,z05 b1,z05 b2,k1]; exact (no (by simp[k1])).symm
   cases hs:b.sec with
   | true=>simp[h3,↓p0,plV,hn,hnl,z05 b1,z05 b2,k1,hs,eqb]; exact (no (by simp[hs])).symm
   | false =>
    simp[h3,↓p0,plV,hn,hnl,z05 b1,z05 b2,k1,hs,h96,eqb]
    exact nx (by simp[k1,hs]) _ _ (by simp[h3]) (by simp[h95]) (by simp)
  ·have no:zd2 bs true w1=false→zk5 vs bs ps w0 w1=2:=fun h=>bad (by simp[zen,h])
   have nx:zd2 bs true w1=true→∀ (ρ':LEnv) (y:List LObj),lk ρ' 3=.ptr 0 0→lk ρ' 95=.agg [.i w0.buf,.i w0.at_,.i w0.size,.i w1.buf,.i w1.at_,.i w1.size]→lk ρ' 96=.i (1+1)→Nx ρ' [] (G++y):=fun h ρ' y e3 e95 e96 =>
    hNx _ _ _ ⟨N - 1,by omega,1+1,rfl,by omega,e3,e95,by rw[e96]; rfl,by simp; omega,p0 y,fun _=>hw0 (by omega),fun _=>h⟩
   simp[h3,h95,h96,↓p0,plV]
   have hL:=z7u bs ps w0 w1 w1 hsz
   rw[plV,Pc.f] at hL
   refine z02 hL (bors_self _ (by simp[dats,LV.dat,z0o,zd1])) ?_
   cases hlB:zc5 bs w1 with
   | false=>simp; exact (no (by simp[zd2,hlB])).symm
   | true =>
   obtain⟨n,hn,hnl,s1,s2,s3,s4,s5⟩:=zbz hlB
   have b1:=zej (z33 hnl)
   have b2:=bf_at2 (z33 hnl)
   have hbq:=zho hnl
   have hW:zd2 bs true w1=(!decide ((gbf bs n).kind=1) && ((gbf bs n).sec==true)):=by simp[zd2,hlB,hn]
   rw[hW] at no nx
   generalize gbf bs n=b at *
   by_cases k1:b.kind=1
   ·simp[h3,↓p0,plV,hn,hnl,z05 b1,z05 b2,k1]; exact (no (by simp[k1])).symm
   cases hs:b.sec with
   | false=>simp[h3,↓p0,plV,hn,hnl,z05 b1,z05 b2,k1,hs,eqb]; exact (no (by simp[hs])).symm
   | true =>
    simp[h3,↓p0,plV,hn,hnl,z05 b1,z05 b2,k1,hs,h96,eqb]
    exact nx (by simp[k1,hs]) _ _ (by simp[h3]) (by simp[h95]) (by simp)
  ·simp[h96]
   unfold zk5
   rw[if_pos]
   have hall:((List.range vs.length).all fun i=>zb8 bs (gv vs i) (gpc ps i))=true:=List.all_eq_true.2 fun j hj=>hpl j (List.mem_range.1 hj)
   have hb1:1≤bs.length:=by omega
   simp[zen,hvB,hb1,g2,g3,hw0 (by omega),hw1 (by omega)]
   intro j hj
   exact hpl j hj
end Go.Proofs.YtodjkjimaheggaaGreat
