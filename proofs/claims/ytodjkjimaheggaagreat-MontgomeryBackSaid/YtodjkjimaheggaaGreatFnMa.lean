/- Limb programs, by the document: which registers, which operations may be. -/
import Derived.Test.YtodjkjimaheggaaGreatSvG3


import Derived.Test.YtodjkjimaheggaaGreatFnG
namespace Go.Proofs.YtodjkjimaheggaaGreat
open Go.Sv
set_option linter.unusedSimpArgs false
set_option maxRecDepth 10000
def z3u:LC:=(.seq (.ops [.z 1 (.box (.t 0)),.z 2 (.move (.c .nilSl))]) (.seq (.block 0 (.seq (.ops [.f 4 0 1,.l 5 4,.z 6 (.bin .eql true 3 (.t 5) (.c (.i 2))),.m 7 6,⟨some 8,(some (7,false)),.fieldAddr 0 (.t 1)⟩,⟨some 9,(some (7,false)),.load1 (.t 8)⟩,⟨some 10,(some (7,false)),.bin .eql true 3 (.t 9) (.c (.i 8))⟩,.z 11 (.pick (.t 7) (.c (.bool true)) (.t 10)),.m 12 11,⟨some 13,(some (12,false)),.fieldAddr 0 (.t 1)⟩,⟨some 14,(some (12,false)),.load1 (.t 13)⟩,⟨some 15,(some (12,false)),.bin .eql true 3 (.t 14) (.c (.i 9))⟩,.z 16 (.pick (.t 12) (.c (.bool true)) (.t 15)),.m 3 16]) (.cond (.t 3) (.seq (.ops [.f 17 3 1,.l 18 17,.z 19 (.buildSl 1 1 [(.i 0)] [(0,1,.t 18)]),.m 2 19]) .ret) (.seq (.ops [.f 21 0 1,.l 22 21,.z 23 (.bin .geq true 3 (.t 22) (.c (.i 3))),.m 24 23,⟨some 25,(some (24,true)),.fieldAddr 0 (.t 1)⟩,⟨some 26,(some (24,true)),.load1 (.t 25)⟩,⟨some 27,(some (24,true)),.bin .leq true 3 (.t 26) (.c (.i 7))⟩,.z 28 (.pick (.t 24) (.t 27) (.c (.bool false))),.m 29 28,⟨some 30,(some (29,false)),.fieldAddr 0 (.t 1)⟩,⟨some 31,(some (29,false)),.load1 (.t 30)⟩,⟨some 32,(some (29,false)),.bin .eql true 3 (.t 31) (.c (.i 10))⟩,.z 33 (.pick (.t 29) (.c (.bool true)) (.t 32)),.m 20 33]) (.cond (.t 20) (.seq (.ops [.f 34 3 1,.l 35 34,.f 36 4 1,.l 37 36,.z 38 (.buildSl 1 2 [(.i 0),(.i 0)] [(0,1,.t 35),(1,1,.t 37)]),.m 2 38]) .ret) (.seq (.ops [.f 40 0 1,.l 41 40,.z 42 (.bin .eql true 3 (.t 41) (.c (.i 11))),.m 43 42,⟨some 44,(some (43,false)),.fieldAddr 0 (.t 1)⟩,⟨some 45,(some (43,false)),.load1 (.t 44)⟩,⟨some 46,(some (43,false)),.bin .eql true 3 (.t 45) (.c (.i 12))⟩,.z 47 (.pick (.t 43) (.c (.bool true)) (.t 46)),.m 48 47,⟨some 49,(some (48,false)),.fieldAddr 0 (.t 1)⟩,⟨some 50,(some (48,false)),.load1 (.t 49)⟩,⟨some 51,(some (48,false)),.bin .eql true 3 (.t 50) (.c (.i 13))⟩,.z 52 (.pick (.t 48) (.c (.bool true)) (.t 51)),.m 39 52]) (.cond (.t 39) (.seq (.ops [.f 53 3 1,.l 54 53,.f 55 4 1,.l 56 55,.f 57 5 1,.l 58 57,.z 59 (.buildSl 1 3 [(.i 0),(.i 0),(.i 0)] [(0,1,.t 54),(1,1,.t 56),(2,1,.t 58)]),.m 2 59]) .ret) (.seq (.ops [.f 61 0 1,.l 62 61,.z 63 (.bin .eql true 3 (.t 62) (.c (.i 14))),.m 64 63,⟨some 65,(some (64,true)),.fieldAddr 3 (.t 1)⟩,⟨some 66,(some (64,true)),.load1 (.t 65)⟩,⟨some 67,(some (64,true)),.bin .neq true 3 (.t 66) (.c (.i (-1)))⟩,.z 68 (.pick (.t 64) (.t 67) (.c (.bool false))),.m 60 68]) (.cond (.t 60) (.seq (.ops [.f 69 3 1,.l 70 69,.z 71 (.buildSl 1 1 [(.i 0)] [(0,1,.t 70)]),.m 2 71]) .ret) (.seq (.ops [.f 73 0 1,.l 74 73,.z 75 (.bin .eql true 3 (.t 74) (.c (.i 15))),.m 76 75,⟨some 77,(some (76,true)),.fieldAddr 3 (.t 1)⟩,⟨some 78,(some (76,true)),.load1 (.t 77)⟩,⟨some 79,(some (76,true)),.bin .neq true 3 (.t 78) (.c (.i (-1)))⟩,.z 80 (.pick (.t 76) (.t 79) (.c (.bool false))),.m 72 80]) (.cond (.t 72) (.seq (.ops [.f 81 3 1,.l 82 81,.f 83 4 1,.l 84 83,.z 85 (.buildSl 1 2 [(.i 0),(.i 0)] [(0,1,.t 82),(1,1,.t 84)]),.m 2 85]) .ret) (.seq (.ops [.f 87 0 1,.l 88 87,.z 89 (.bin .eql true 3 (.t 88) (.c (.i 15))),.m 86 89]) (.cond (.t 86) (.seq (.ops [.f 90 4 1,.l 91 90,.z 92 (.buildSl 1 1 [(.i 0)] [(0,1,.t 91)]),.m 2 92]) .ret) .skip))))))))))))) (.seq (.ops [.z 2 (.move (.c .nilSl))]) .ret)))
theorem r_ref12_Takes:z0f Tryz.prog 143=some ⟨93,z3u.r,[.tmp 2]⟩:=by kernel_rfl
theorem k_ref12_Takes:z3u.ok=true:=by kernel_rfl
def z2a:LC:=(.seq (.ops [.z 1 (.box (.t 0)),.z 2 (.move (.c .nilSl))]) (.seq (.block 0 (.seq (.ops [.f 4 0 1,.l 5 4,.z 6 (.bin .eql true 3 (.t 5) (.c (.i 10))),.m 7 6,⟨some 8,(some (7,false)),.fieldAddr 0 (.t 1)⟩,⟨some 9,(some (7,false)),.load1 (.t 8)⟩,⟨some 10,(some (7,false)),.bin .eql true 3 (.t 9) (.c (.i 11))⟩,.z 11 (.pick (.t 7) (.c (.bool true)) (.t 10)),.m 12 11,⟨some 13,(some (12,false)),.fieldAddr 0 (.t 1)⟩,⟨some 14,(some (12,false)),.load1 (.t 13)⟩,⟨some 15,(some (12,false)),.bin .eql true 3 (.t 14) (.c (.i 12))⟩,.z 16 (.pick (.t 12) (.c (.bool true)) (.t 15)),.m 3 16]) (.cond (.t 3) (.seq (.ops [.f 17 1 1,.l 18 17,.f 19 2 1,.l 20 19,.z 21 (.buildSl 1 2 [(.i 0),(.i 0)] [(0,1,.t 18),(1,1,.t 20)]),.m 2 21]) .ret) (.seq (.ops [.f 23 0 1,.l 24 23,.z 25 (.bin .eql true 3 (.t 24) (.c (.i 15))),.m 26 25,⟨some 27,(some (26,false)),.fieldAddr 0 (.t 1)⟩,⟨some 28,(some (26,false)),.load1 (.t 27)⟩,⟨some 29,(some (26,false)),.bin .eql true 3 (.t 28) (.c (.i 17))⟩,.z 30 (.pick (.t 26) (.c (.bool true)) (.t 29)),.m 22 30]) (.cond (.t 22) (.seq (.ops [.z 2 (.move (.c .nilSl))]) .ret) .skip))))) (.seq (.ops [.f 31 1 1,.l 32 31,.z 33 (.buildSl 1 1 [(.i 0)] [(0,1,.t 32)]),.m 2 33]) .ret)))
theorem r_ref12_Makes:z0f Tryz.prog 142=some ⟨34,z2a.r,[.tmp 2]⟩:=by kernel_rfl
theorem k_ref12_Makes:z2a.ok=true:=by kernel_rfl
def z6k:LC:=(.seq (.ops [.z 3 (.box (.t 0)),.z 6 (.move (.c (.bool false)))]) (.seq (.seq (.ops [.m 7 2,.z 8 (.un .not (.t 7))]) (.cond (.t 8) (.seq (.ops [.m 9 1,.z 10 (.bin .eql true 3 (.t 9) (.c (.i (-1)))),.m 6 10]) .ret) .skip)) (.seq (.ops [.m 11 1,.z 12 (.bin .geq true 3 (.t 11) (.c (.i 0))),.m 13 12,⟨some 14,(some (13,true)),.move (.t 1)⟩,⟨some 15,(some (13,true)),.fieldAddr 0 (.t 3)⟩,⟨some 16,(some (13,true)),.load1 (.t 15)⟩,⟨some 17,(some (13,true)),.bin .lss false 3 (.t 14) (.t 16)⟩,.z 18 (.pick (.t 13) (.t 17) (.c (.bool false))),.m 6 18]) .ret)))
theorem r_ref12_field:z0f Tryz.prog 181=some ⟨19,z6k.r,[.tmp 6]⟩:=by kernel_rfl
theorem k_ref12_field:z6k.ok=true:=by kernel_rfl
def z0d:LC:=(.seq (.ops [.z 2 (.box (.t 0)),.z 3 (.box (.t 1)),.z 4 (.move (.c (.bool false)))]) (.seq (.ops [.f 12 0 3,.l 13 12,.m 5 13]) (.seq (.seq (.ops [.m 14 5,.z 15 (.bin .lss true 3 (.t 14) (.c (.i 1))),.m 16 15,⟨some 17,(some (16,false)),.move (.t 5)⟩,⟨some 18,(some (16,false)),.bin .gtr true 3 (.t 17) (.c (.i 17))⟩,.z 19 (.pick (.t 16) (.c (.bool true)) (.t 18))]) (.cond (.t 19) (.seq (.ops [.z 4 (.move (.c (.bool false)))]) .ret) .skip)) (.seq (.ops [.m 20 5,.z 21 (.bin .eql true 3 (.t 20) (.c (.i 14))),.m 22 21,⟨some 23,(some (22,false)),.move (.t 5)⟩,⟨some 24,(some (22,false)),.bin .eql true 3 (.t 23) (.c (.i 15))⟩,.z 25 (.pick (.t 22) (.c (.bool true)) (.t 24)),.m 6 25]) (.seq (.ops [.m 26 5,.z 27 (.bin .neq true 3 (.t 26) (.c (.i 15))),.m 28 27,⟨some 29,(some (28,true)),.move (.t 5)⟩,⟨some 30,(some (28,true)),.bin .neq true 3 (.t 29) (.c (.i 17))⟩,.z 31 (.pick (.t 28) (.t 30) (.c (.bool false))),.m 7 31]) (.seq (.ops [.m 32 5,.z 33 (.bin .eql true 3 (.t 32) (.c (.i 10))),.m 34 33,⟨some 35,(some (34,false)),.move (.t 5)⟩,⟨some 36,(some (34,false)),.bin .eql true 3 (.t 35) (.c (.i 11))⟩,.z 37 (.pick (.t 34) (.c (.bool true)) (.t 36)),.m 38 37,⟨some 39,(some (38,false)),.move (.t 5)⟩,⟨some 40,(some (38,false)),.bin .eql true 3 (.t 39) (.c (.i 12))⟩,.z 41 (.pick (.t 38) (.c (.bool true)) (.t 40)),.m 8 41]) (.seq (.ops [.m 42 5,.z 43 (.bin .neq true 3 (.t 42) (.c (.i 1))),.m 44 43,⟨some 45,(some (44,true)),.move (.t 5)⟩,⟨some 46,(some (44,true)),.bin .neq true 3 (.t 45) (.c (.i 16))⟩,.z 47 (.pick (.t 44) (.t 46) (.c (.bool false))),.m 48 47,⟨some 49,(some (48,true)),.move (.t 5)⟩,⟨some 50,(some (48,true)),.bin .neq true 3 (.t 49) (.c (.i 17))⟩,.z 51 (.pick (.t 48) (.t 50) (.c (.bool false))),.m 9 51]) (.seq (.ops [.m 52 5,.z 53 (.bin .geq true 3 (.t 52) (.c (.i 3))),.m 54 53,⟨some 55,(some (54,true)),.move (.t 5)⟩,⟨some 56,(some (54,true)),.bin .leq true 3 (.t 55) (.c (.i 7))⟩,.z 57 (.pick (.t 54) (.t 56) (.c (.bool false))),.m 58 57,⟨some 59,(some (58,false)),.move (.t 5)⟩,⟨some 60,(some (58,false)),.bin .geq true 3 (.t 59) (.c (.i 10))⟩,⟨some 61,(some (58,false)),.move (.t 60)⟩,⟨some 62,(some (61,true)),.move (.t 5)⟩,⟨some 63,(some (61,true)),.bin .leq true 3 (.t 62) (.c (.i 13))⟩,⟨some 64,(some (58,false)),.pick (.t 61) (.t 63) (.c (.bool false))⟩,.z 65 (.pick (.t 58) (.c (.bool true)) (.t 64)),.m 66 65,⟨some 67,(some (66,false)),.move (.t 5)⟩,⟨some 68,(some (66,false)),.bin .eql true 3 (.t 67) (.c (.i 15))⟩,.z 69 (.pick (.t 66) (.c (.bool true)) (.t 68)),.m 10 69]) (.seq (.ops [.m 70 5,.z 71 (.bin .geq true 3 (.t 70) (.c (.i 11))),.m 72 71,⟨some 73,(some (72,true)),.move (.t 5)⟩,⟨some 74,(some (72,true)),.bin .leq true 3 (.t 73) (.c (.i 13))⟩,.z 75 (.pick (.t 72) (.t 74) (.c (.bool false))),.m 11 75]) (.seq (.seq (.ops [.z 76 (.loadN 3 (.t 2)),.f 77 1 3,.l 78 77,.m 79 7,.z 80 (.callV (.c (.fn (.func 181) [] [])) [.t 76,.t 78,.t 79]),.z 81 (.un .not (.t 80)),.m 82 81,⟨some 83,(some (82,false)),.loadN 3 (.t 2)⟩,⟨some 84,(some (82,false)),.fieldAddr 2 (.t 3)⟩,⟨some 85,(some (82,false)),.load1 (.t 84)⟩,⟨some 86,(some (82,false)),.move (.t 8)⟩,⟨some 87,(some (82,false)),.callV (.c (.fn (.func 181) [] [])) [.t 83,.t 85,.t 86]⟩,⟨some 88,(some (82,false)),.un .not (.t 87)⟩,.z 89 (.pick (.t 82) (.c (.bool true)) (.t 88)),.m 90 89,⟨some 91,(some (90,false)),.loadN 3 (.t 2)⟩,⟨some 92,(some (90,false)),.fieldAddr 3 (.t 3)⟩,⟨some 93,(some (90,false)),.load1 (.t 92)⟩,⟨some 94,(some (90,false)),.move (.t 9)⟩,⟨some 95,(some (90,false)),.callV (.c (.fn (.func 181) [] [])) [.t 91,.t 93,.t 94]⟩,⟨some 96,(some (90,false)),.un .not (.t 95)⟩,⟨some 97,(some (90,false)),.move (.t 96)⟩,⟨some 98,(some (97,true)),.move (.t 6)⟩,⟨some 99,(some (97,true)),.move (.t 98)⟩,⟨some 100,(some (99,true)),.fieldAddr 3 (.t 3)⟩,⟨some 101,(some (99,true)),.load1 (.t 100)⟩,⟨some 102,(some (99,true)),.bin .eql true 3 (.t 101) (.c (.i (-1)))⟩,⟨some 103,(some (97,true)),.pick (.t 99) (.t 102) (.c (.bool false))⟩,⟨some 104,(some (97,true)),.un .not (.t 103)⟩,⟨some 105,(some (90,false)),.pick (.t 97) (.t 104) (.c (.bool false))⟩,.z 106 (.pick (.t 90) (.c (.bool true)) (.t 105)),.m 107 106,⟨some 108,(some (107,false)),.loadN 3 (.t 2)⟩,⟨some 109,(some (107,false)),.fieldAddr 4 (.t 3)⟩,⟨some 110,(some (107,false)),.load1 (.t 109)⟩,⟨some 111,(some (107,false)),.move (.t 10)⟩,⟨some 112,(some (107,false)),.callV (.c (.fn (.func 181) [] [])) [.t 108,.t 110,.t 111]⟩,⟨some 113,(some (107,false)),.un .not (.t 112)⟩,.z 114 (.pick (.t 107) (.c (.bool true)) (.t 113)),.m 115 114,⟨some 116,(some (115,false)),.loadN 3 (.t 2)⟩,⟨some 117,(some (115,false)),.fieldAddr 5 (.t 3)⟩,⟨some 118,(some (115,false)),.load1 (.t 117)⟩,⟨some 119,(some (115,false)),.move (.t 11)⟩,⟨some 120,(some (115,false)),.callV (.c (.fn (.func 181) [] [])) [.t 116,.t 118,.t 119]⟩,⟨some 121,(some (115,false)),.un .not (.t 120)⟩,.z 122 (.pick (.t 115) (.c (.bool true)) (.t 121)),.m 123 122,⟨some 124,(some (123,false)),.move (.t 8)⟩,⟨some 125,(some (123,false)),.move (.t 124)⟩,⟨some 126,(some (125,true)),.fieldAddr 1 (.t 3)⟩,⟨some 127,(some (125,true)),.load1 (.t 126)⟩,⟨some 128,(some (125,true)),.fieldAddr 2 (.t 3)⟩,⟨some 129,(some (125,true)),.load1 (.t 128)⟩,⟨some 130,(some (125,true)),.bin .eql false 3 (.t 127) (.t 129)⟩,⟨some 131,(some (123,false)),.pick (.t 125) (.t 130) (.c (.bool false))⟩,.z 132 (.pick (.t 123) (.c (.bool true)) (.t 131))]) (.cond (.t 132) (.seq (.ops [.z 4 (.move (.c (.bool false)))]) .ret) .skip)) (.seq (.block 0 (.seq (.ops [.m 134 6,.m 133 134]) (.cond (.t 133) (.seq (.seq (.ops [.f 135 6 3,.l 136 135,.z 137 (.bin .lss true 3 (.t 136) (.c (.i 0))),.m 138 137,⟨some 139,(some (138,false)),.fieldAddr 6 (.t 3)⟩,⟨some 140,(some (138,false)),.load1 (.t 139)⟩,⟨some 141,(some (138,false)),.fieldAddr 1 (.t 2)⟩,⟨some 142,(some (138,false)),.load1 (.t 141)⟩,⟨some 143,(some (138,false)),.lenSl (.t 142)⟩,⟨some 144,(some (138,false)),.bin .geq false 3 (.t 140) (.t 143)⟩,.z 145 (.pick (.t 138) (.c (.bool true)) (.t 144)),.m 146 145,⟨some 147,(some (146,false)),.move (.t 5)⟩,⟨some 148,(some (146,false)),.bin .eql true 3 (.t 147) (.c (.i 15))⟩,⟨some 149,(some (146,false)),.move (.t 148)⟩,⟨some 150,(some (149,true)),.fieldAddr 1 (.t 2)⟩,⟨some 151,(some (149,true)),.load1 (.t 150)⟩,⟨some 152,(some (149,true)),.fieldAddr 6 (.t 3)⟩,⟨some 153,(some (149,true)),.load1 (.t 152)⟩,⟨some 154,(some (149,true)),.ixAddr 3 (.t 151) (.t 153)⟩,⟨some 155,(some (149,true)),.fieldAddr 1 (.t 154)⟩,⟨some 156,(some (149,true)),.load1 (.t 155)⟩,⟨some 157,(some (149,true)),.bin .eql true 3 (.t 156) (.c (.i 1))⟩,⟨some 158,(some (146,false)),.pick (.t 149) (.t 157) (.c (.bool false))⟩,.z 159 (.pick (.t 146) (.c (.bool true)) (.t 158))]) (.cond (.t 159) (.seq (.ops [.z 4 (.move (.c (.bool false)))]) .ret) .skip)) (.seq (.draw [(.f 160 3 3,[]),(.l 161 160,[]),(.z 162 (.bin .neq true 3 (.t 161) (.c (.i (-1)))),[]),(.m 163 162,[]),(⟨some 164,(some (163,false)),.fieldAddr 7 (.t 3)⟩,[]),(⟨some 165,(some (163,false)),.load1 (.t 164)⟩,[]),(⟨some 166,(some (163,false)),.fieldAddr 1 (.t 2)⟩,[]),(⟨some 167,(some (163,false)),.load1 (.t 166)⟩,[]),(⟨some 168,(some (163,false)),.fieldAddr 6 (.t 3)⟩,[]),(⟨some 169,(some (163,false)),.load1 (.t 168)⟩,[]),(⟨some 170,(some (163,false)),.ixAddr 3 (.t 167) (.t 169)⟩,[]),(⟨some 171,(some (163,false)),.fieldAddr 0 (.t 170)⟩,[]),(⟨some 172,(some (163,false)),.load1 (.t 171)⟩,[]),(⟨some 173,(some (163,false)),.cvInt .u64 (.t 172)⟩,[]),(⟨some 174,(some (163,false)),.bin .lss false 23 (.t 165) (.t 173)⟩,[]),(.z 175 (.pick (.t 163) (.c (.bool true)) (.t 174)),[]),(.m 4 175,[])]) .ret)) (.seq (.ops [.f 177 6 3,.l 178 177,.z 179 (.bin .neq true 3 (.t 178) (.c (.i 0))),.m 176 179]) (.cond (.t 176) (.seq (.ops [.z 4 (.move (.c (.bool false)))]) .ret) (.seq (.ops [.m 181 5,.z 182 (.bin .eql true 3 (.t 181) (.c (.i 1))),.m 180 182]) (.cond (.t 180) (.seq (.ops [.z 4 (.move (.c (.bool true)))]) .ret) (.seq (.ops [.m 184 5,.z 185 (.bin .eql true 3 (.t 184) (.c (.i 8))),.m 186 185,⟨some 187,(some (186,false)),.move (.t 5)⟩,⟨some 188,(some (186,false)),.bin .eql true 3 (.t 187) (.c (.i 9))⟩,.z 189 (.pick (.t 186) (.c (.bool true)) (.t 188)),.m 183 189]) (.cond (.t 183) (.seq (.ops [.f 190 7 3,.l 191 190,.z 192 (.bin .geq true 23 (.t 191) (.c (.u 1))),.m 193 192,⟨some 194,(some (193,true)),.fieldAddr 7 (.t 3)⟩,⟨some 195,(some (193,true)),.load1 (.t 194)⟩,⟨some 196,(some (193,true)),.bin .leq true 23 (.t 195) (.c (.u 63))⟩,.z 197 (.pick (.t 193) (.t 196) (.c (.bool false))),.m 4 197]) .ret) (.seq (.ops [.m 199 5,.z 200 (.bin .eql true 3 (.t 199) (.c (.i 16))),.m 198 200]) (.cond (.t 198) (.seq (.ops [.f 201 7 3,.l 202 201,.z 203 (.bin .geq true 23 (.t 202) (.c (.u 1))),.m 204 203,⟨some 205,(some (204,true)),.fieldAddr 7 (.t 3)⟩,⟨some 206,(some (204,true)),.load1 (.t 205)⟩,⟨some 207,(some (204,true)),.bin .leq true 23 (.t 206) (.c (.u 1048576))⟩,.z 208 (.pick (.t 204) (.t 207) (.c (.bool false))),.m 4 208]) .ret) .skip))))))))))) (.seq (.ops [.f 209 7 3,.l 210 209,.z 211 (.bin .eql true 23 (.t 210) (.c (.u 0))),.m 4 211]) .ret))))))))))))
theorem r_ref12_fields:z0f Tryz.prog 141=some ⟨212,z0d.r,[.tmp 4]⟩:=by kernel_rfl
theorem k_ref12_fields:z0d.ok=true:=by kernel_rfl
def zdc:LC:=(.seq (.ops [.z 4 (.move (.c (.bool false)))]) (.seq (.seq (.ops [.z 5 (.move (.c (.i 0)))]) (.block 0 (.loop (.seq (.seq (.ops [.m 6 5,.m 7 0,.z 8 (.lenSl (.t 7)),.z 9 (.bin .lss false 3 (.t 6) (.t 8))]) (.cond (.t 9) .skip (.exit 0))) (.seq (.block 1 (.seq (.ops [.m 12 0,.m 13 5,.z 14 (.ixAddr 1 (.t 12) (.t 13)),.l 15 14,.m 16 1,.z 17 (.bin .eql false 3 (.t 15) (.t 16))]) (.cond (.t 17) (.seq (.ops [.z 4 (.move (.c (.bool true)))]) .ret) .skip))) (.ops [.m 10 5,.z 11 (.bin .add true 3 (.t 10) (.c (.i 1))),.m 5 11])))))) (.seq (.ops [.z 4 (.move (.c (.bool false)))]) .ret)))
theorem r_ref12_in:z0f Tryz.prog 144=some ⟨18,zdc.r,[.tmp 4]⟩:=by kernel_rfl
theorem k_ref12_in:zdc.ok=true:=by kernel_rfl
def zbu:LC:=(.seq (.ops [.z 2 (.move (.c (.u 0)))]) (.seq (.seq (.ops [.m 3 0]) (.cond (.t 3) (.seq (.ops [.z 2 (.move (.c (.u 1)))]) .ret) .skip)) (.seq (.ops [.z 2 (.move (.c (.u 0)))]) .ret)))
theorem r_ref12_bit:z0f Tryz.prog 149=some ⟨4,zbu.r,[.tmp 2]⟩:=by kernel_rfl
theorem k_ref12_bit:zbu.ok=true:=by kernel_rfl
theorem zdr (k:Int):k < 1∨k=1∨k=2∨k=3∨k=4∨k=5∨k=6∨k=7∨k=8∨k=9∨k=10∨k=11∨k=12∨k=13∨k=14∨k=15∨k=16∨k=17∨17 < k:=by omega
theorem di_ok (l:List Int):dats (l.map .i)=true:=zb1 (fun _=>rfl) l
theorem zhz (o:Lo):FnV Tryz.prog 143 [.agg o.f] (.lst ((z0u o).map .i) (z0u o).length 1):=by
 refine FnV.mk (by simp[LV.dat,di_ok]) (z01 r_ref12_Takes k_ref12_Takes (by simp) ?_)
 have hC:o.f=[.i o.kind,.i o.d,.i o.e,.i o.a,.i o.b,.i o.c,.i o.buf,.u o.imm]:=rfl
 rcases zdr o.kind with h | h | h | h | h | h | h | h | h | h | h | h | h | h | h | h | h | h | h
 case inr.inr.inr.inr.inr.inr.inr.inr.inr.inr.inr.inr.inr.inr.inl | inr.inr.inr.inr.inr.inr.inr.inr.inr.inr.inr.inr.inr.inr.inr.inl =>
  by_cases ha:o.a=-1 <;> simp[z3u,hC,z0u,h,ha,borR,bor,LV.dat,dats]
 case inl | inr.inr.inr.inr.inr.inr.inr.inr.inr.inr.inr.inr.inr.inr.inr.inr.inr.inr =>
  have n2:o.kind≠2:=by omega
  have n3:¬ (3≤o.kind∧o.kind≤7):=by omega
  have n8:o.kind≠8:=by omega
  have n9:o.kind≠9:=by omega
  have n10:o.kind≠10:=by omega
  have n11:o.kind≠11:=by omega
  have n12:o.kind≠12:=by omega
  have n13:o.kind≠13:=by omega
  have n14:o.kind≠14:=by omega
  have n15:o.kind≠15:=by omega
  by_cases g:3≤o.kind
  ·have g7:¬ o.kind≤7:=fun q=>n3 ⟨g,q⟩
   simp[z3u,hC,z0u,g,g7,n2,n8,n9,n10,n11,n12,n13,n14,n15,borR,bor,LV.dat,dats]
  ·simp[z3u,hC,z0u,g,n2,n8,n9,n10,n11,n12,n13,n14,n15,borR,bor,LV.dat,dats]
 all_goals simp[z3u,hC,z0u,h,borR,bor,LV.dat,dats]
theorem zi1 (o:Lo):FnV Tryz.prog 142 [.agg o.f] (.lst ((z08 o).map .i) (z08 o).length 1):=by
 refine FnV.mk (by simp[LV.dat,di_ok]) (z01 r_ref12_Makes k_ref12_Makes (by simp) ?_)
 have hC:o.f=[.i o.kind,.i o.d,.i o.e,.i o.a,.i o.b,.i o.c,.i o.buf,.u o.imm]:=rfl
 by_cases h10:o.kind=10; · simp[z2a,hC,z08,h10,borR,bor,LV.dat,dats]
 by_cases h11:o.kind=11; · simp[z2a,hC,z08,h11,borR,bor,LV.dat,dats]
 by_cases h12:o.kind=12; · simp[z2a,hC,z08,h12,borR,bor,LV.dat,dats]
 by_cases h15:o.kind=15; · simp[z2a,hC,z08,h15,borR,bor,LV.dat,dats]
 by_cases h17:o.kind=17; · simp[z2a,hC,z08,h17,borR,bor,LV.dat,dats]
 simp[z2a,hC,z08,h10,h11,h12,h15,h17,borR,bor,LV.dat,dats]
theorem z00 (regs:Int) (x y:LV) (r:Int) (b:Bool):FnS Tryz.prog 181 [.agg [.i regs,x,y],.i r,.bool b] (.bool (z06 regs r b)) []:=by
 refine FnS.val rfl (z01 r_ref12_field k_ref12_field (by simp) ?_)
 cases b with
 | false=>simp[z6k,z06]
 | true=>by_cases g:0≤r <;> simp[z6k,z06,g]
theorem zeb (b:Bool):FnS Tryz.prog 149 [.bool b] (.u (bitR b)) []:=by
 refine FnS.val rfl (z01 r_ref12_bit k_ref12_bit (by simp) ?_)
 cases b <;> simp[zbu,bitR]
theorem zo6 (l:List Int) (n:Int) (hl:l.length≤1000000000):FnS Tryz.prog 144 [.lst (l.map .i) l.length 1,.i n] (.bool (l.contains n)) []:=by
 refine FnS.val rfl (z01 r_ref12_in k_ref12_in (by simp) ?_)
 simp[zdc]
 refine z0m (fun ρ D G N=>∃ i:Nat,D=[]∧N+i=l.length∧lk ρ 0=.lst (l.map .i) l.length 1∧lk ρ 1=.i n∧lk ρ 5=.i i∧∀ x∈l.take i,¬ x=n) (N:=l.length) ⟨0,rfl,by omega,by simp,by simp,by simp,by simp⟩ ?_
 rintro N ρ D G ⟨i,rfl,hN,h0,h1,h5,hp⟩ Nx hNx
 by_cases g:i < l.length
 ·have q:(l.map LV.i)[i]?=some (.i l[i]):=by simp[g]
  have hm:l[i]∈l:=List.getElem_mem g
  have ht:l.take (i+1)=l.take i++[l[i]]:=List.take_succ_eq_append_getElem g
  generalize l[i]=x at *
  by_cases e:x=n
  ·subst e
   simp[h0,h1,h5,g,z05 q,hm]
  ·simp[h0,h1,h5,g,z05 q,e]
   refine⟨by omega,hNx _ _ _ ⟨N - 1,by omega,i+1,rfl,by omega,by simp[h0],by simp[h1],by simp,fun y hy=>?_⟩⟩
   rw[ht] at hy
   rcases List.mem_append.1 hy with hy | hy
   ·exact hp y hy
   ·simp at hy; rw[hy]; exact e
 ·rw[List.take_of_length_le (by omega)] at hp
  have:¬ n∈l:=fun h=>hp n h rfl
  simp[h0,h1,h5,g,this]
def lpV (regs:Int) (bs:List Bf) (os:List Lo):List LV:=[.i regs,.lst (bfC bs) bs.length 3,.lst (loC os) os.length 8]
theorem zpg (regs:Int) (bs:List Bf) (os:List Lo):dats (lpV regs bs os)=true:=by simp[lpV,dats,LV.dat,z0o,z0s]
noncomputable def z0x (regs:Int) (bs:List Bf) (o:Lo):Bool:=(z06 regs o.d (hasD o.kind) && (z06 regs o.e (hasE o.kind) && ((z06 regs o.a (hasA o.kind) || (memK o.kind && decide (o.a=-1))) && (z06 regs o.b (z40 o.kind) && (z06 regs o.c (z3z o.kind) && (!(hasE o.kind && decide (o.d=o.e)) &&
  (if memK o.kind=true then decide (0≤o.buf) && (decide (o.buf < bs.length) && (!(decide (o.kind=15) && decide ((gbf bs o.buf.toNat).kind=1)) && (!decide (o.a=-1) || decide (o.imm < iU (gbf bs o.buf.toNat).size))))
   else decide (o.buf=0) && (if o.kind=1 then true else if o.kind=8∨o.kind=9 then decide (1≤o.imm) && decide (o.imm≤63) else if o.kind=16 then decide (1≤o.imm) && decide (o.imm≤1048576) else decide (o.imm=0)))))))))
theorem fields_1 (regs:Int) (bs:List Bf) (os:List Lo) (o:Lo) (h:o.kind=1):z0k Tryz.prog (.fn 141) [.agg (lpV regs bs os),.agg o.f] [] fun v _=>v=.bool (z0x regs bs o):=by
 refine z01 r_ref12_fields k_ref12_fields (by simp) ?_
 have hC:o.f=[.i o.kind,.i o.d,.i o.e,.i o.a,.i o.b,.i o.c,.i o.buf,.u o.imm]:=rfl
 have hb3:∀ (x:Int) (b:Bool) {G:z03},bors G [.agg [.i regs,.lst (bfC bs) bs.length 3,.lst (loC os) os.length 8],.i x,.bool b] [.agg [.i regs,.lst (bfC bs) bs.length 3,.lst (loC os) os.length 8],.i x,.bool b]:=fun x b G=>bors_self _ (by simp[dats,LV.dat,z0o,z0s])
 unfold z0x
 simp[z0d,lpV,hC,h,hasD,hasE,hasA,z40,z3z,memK]
 refine z02 (z00 regs _ _ o.d true) (hb3 _ _) ?_
 cases e1:z06 regs o.d true with
 | false=>simp[e1]
 | true =>
 simp
 refine z02 (z00 regs _ _ o.e false) (hb3 _ _) ?_
 cases e2:z06 regs o.e false with
 | false=>simp[e2]
 | true =>
 simp
 refine z02 (z00 regs _ _ o.a false) (hb3 _ _) ?_
 cases e3:z06 regs o.a false with
 | false=>simp[e3]
 | true =>
 simp
 refine z02 (z00 regs _ _ o.b false) (hb3 _ _) ?_
 cases e4:z06 regs o.b false with
 | false=>simp[e4]
 | true =>
 simp
 refine z02 (z00 regs _ _ o.c false) (hb3 _ _) ?_
 cases e5:z06 regs o.c false with
 | false=>simp[e5]
 | true =>
 simp
theorem fields_2 (regs:Int) (bs:List Bf) (os:List Lo) (o:Lo) (h:o.kind=2):z0k Tryz.prog (.fn 141) [.agg (lpV regs bs os),.agg o.f] [] fun v _=>v=.bool (z0x regs bs o):=by
 refine z01 r_ref12_fields k_ref12_fields (by simp) ?_
 have hC:o.f=[.i o.kind,.i o.d,.i o.e,.i o.a,.i o.b,.i o.c,.i o.buf,.u o.imm]:=rfl
 have hb3:∀ (x:Int) (b:Bool) {G:z03},bors G [.agg [.i regs,.lst (bfC bs) bs.length 3,.lst (loC os) os.length 8],.i x,.bool b] [.agg [.i regs,.lst (bfC bs) bs.length 3,.lst (loC os) os.length 8],.i x,.bool b]:=fun x b G=>bors_self _ (by simp[dats,LV.dat,z0o,z0s])
 unfold z0x
 simp[z0d,lpV,hC,h,hasD,hasE,hasA,z40,z3z,memK]
 refine z02 (z00 regs _ _ o.d true) (hb3 _ _) ?_
 cases e1:z06 regs o.d true with
 | false=>simp[e1]
 | true =>
 simp
 refine z02 (z00 regs _ _ o.e false) (hb3 _ _) ?_
 cases e2:z06 regs o.e false with
 | false=>simp[e2]
 | true =>
 simp
 refine z02 (z00 regs _ _ o.a true) (hb3 _ _) ?_
 cases e3:z06 regs o.a true with
 | false=>simp[e3]
 | true =>
 simp
 refine z02 (z00 regs _ _ o.b false) (hb3 _ _) ?_
 cases e4:z06 regs o.b false with
 | false=>simp[e4]
 | true =>
 simp
 refine z02 (z00 regs _ _ o.c false) (hb3 _ _) ?_
 cases e5:z06 regs o.c false with
 | false=>simp[e5]
 | true =>
 simp
 by_cases b0:o.buf=0
 case neg=>simp[b0]
 simp[b0]
theorem fields_3 (regs:Int) (bs:List Bf) (os:List Lo) (o:Lo) (h:o.kind=3):z0k Tryz.prog (.fn 141) [.agg (lpV regs bs os),.agg o.f] [] fun v _=>v=.bool (z0x regs bs o):=by
 refine z01 r_ref12_fields k_ref12_fields (by simp) ?_
 have hC:o.f=[.i o.kind,.i o.d,.i o.e,.i o.a,.i o.b,.i o.c,.i o.buf,.u o.imm]:=rfl
 have hb3:∀ (x:Int) (b:Bool) {G:z03},bors G [.agg [.i regs,.lst (bfC bs) bs.length 3,.lst (loC os) os.length 8],.i x,.bool b] [.agg [.i regs,.lst (bfC bs) bs.length 3,.lst (loC os) os.length 8],.i x,.bool b]:=fun x b G=>bors_self _ (by simp[dats,LV.dat,z0o,z0s])
 unfold z0x
 simp[z0d,lpV,hC,h,hasD,hasE,hasA,z40,z3z,memK]
 refine z02 (z00 regs _ _ o.d true) (hb3 _ _) ?_
 cases e1:z06 regs o.d true with
 | false=>simp[e1]
 | true =>
 simp
 refine z02 (z00 regs _ _ o.e false) (hb3 _ _) ?_
 cases e2:z06 regs o.e false with
 | false=>simp[e2]
 | true =>
 simp
 refine z02 (z00 regs _ _ o.a true) (hb3 _ _) ?_
 cases e3:z06 regs o.a true with
 | false=>simp[e3]
 | true =>
 simp
 refine z02 (z00 regs _ _ o.b true) (hb3 _ _) ?_
 cases e4:z06 regs o.b true with
 | false=>simp[e4]
 | true =>
 simp
 refine z02 (z00 regs _ _ o.c false) (hb3 _ _) ?_
 cases e5:z06 regs o.c false with
 | false=>simp[e5]
 | true =>
 simp
 by_cases b0:o.buf=0
 case neg=>simp[b0]
 simp[b0]
theorem fields_4 (regs:Int) (bs:List Bf) (os:List Lo) (o:Lo) (h:o.kind=4):z0k Tryz.prog (.fn 141) [.agg (lpV regs bs os),.agg o.f] [] fun v _=>v=.bool (z0x regs bs o):=by
 refine z01 r_ref12_fields k_ref12_fields (by simp) ?_
 have hC:o.f=[.i o.kind,.i o.d,.i o.e,.i o.a,.i o.b,.i o.c,.i o.buf,.u o.imm]:=rfl
 have hb3:∀ (x:Int) (b:Bool) {G:z03},bors G [.agg [.i regs,.lst (bfC bs) bs.length 3,.lst (loC os) os.length 8],.i x,.bool b] [.agg [.i regs,.lst (bfC bs) bs.length 3,.lst (loC os) os.length 8],.i x,.bool b]:=fun x b G=>bors_self _ (by simp[dats,LV.dat,z0o,z0s])
 unfold z0x
 simp[z0d,lpV,hC,h,hasD,hasE,hasA,z40,z3z,memK]
 refine z02 (z00 regs _ _ o.d true) (hb3 _ _) ?_
 cases e1:z06 regs o.d true with
 | false=>simp[e1]
 | true =>
 simp
 refine z02 (z00 regs _ _ o.e false) (hb3 _ _) ?_
 cases e2:z06 regs o.e false with
 | false=>simp[e2]
 | true =>
 simp
 refine z02 (z00 regs _ _ o.a true) (hb3 _ _) ?_
 cases e3:z06 regs o.a true with
 | false=>simp[e3]
 | true =>
 simp
 refine z02 (z00 regs _ _ o.b true) (hb3 _ _) ?_
 cases e4:z06 regs o.b true with
 | false=>simp[e4]
 | true =>
 simp
 refine z02 (z00 regs _ _ o.c false) (hb3 _ _) ?_
 cases e5:z06 regs o.c false with
 | false=>simp[e5]
 | true =>
 simp
 by_cases b0:o.buf=0
 case neg=>simp[b0]
 simp[b0]
theorem fields_5 (regs:Int) (bs:List Bf) (os:List Lo) (o:Lo) (h:o.kind=5):z0k Tryz.prog (.fn 141) [.agg (lpV regs bs os),.agg o.f] [] fun v _=>v=.bool (z0x regs bs o):=by
 refine z01 r_ref12_fields k_ref12_fields (by simp) ?_
 have hC:o.f=[.i o.kind,.i o.d,.i o.e,.i o.a,.i o.b,.i o.c,.i o.buf,.u o.imm]:=rfl
 have hb3:∀ (x:Int) (b:Bool) {G:z03},bors G [.agg [.i regs,.lst (bfC bs) bs.length 3,.lst (loC os) os.length 8],.i x,.bool b] [.agg [.i regs,.lst (bfC bs) bs.length 3,.lst (loC os) os.length 8],.i x,.bool b]:=fun x b G=>bors_self _ (by simp[dats,LV.dat,z0o,z0s])
 unfold z0x
 simp[z0d,lpV,hC,h,hasD,hasE,hasA,z40,z3z,memK]
 refine z02 (z00 regs _ _ o.d true) (hb3 _ _) ?_
 cases e1:z06 regs o.d true with
 | false=>simp[e1]
 | true =>
 simp
 refine z02 (z00 regs _ _ o.e false) (hb3 _ _) ?_
 cases e2:z06 regs o.e false with
 | false=>simp[e2]
 | true =>
 simp
 refine z02 (z00 regs _ _ o.a true) (hb3 _ _) ?_
 cases e3:z06 regs o.a true with
 | false=>simp[e3]
 | true =>
 simp
 refine z02 (z00 regs _ _ o.b true) (hb3 _ _) ?_
 cases e4:z06 regs o.b true with
 | false=>simp[e4]
 | true =>
 simp
 refine z02 (z00 regs _ _ o.c false) (hb3 _ _) ?_
 cases e5:z06 regs o.c false with
 | false=>simp[e5]
 | true =>
 simp
 by_cases b0:o.buf=0
 case neg=>simp[b0]
 simp[b0]
theorem fields_6 (regs:Int) (bs:List Bf) (os:List Lo) (o:Lo) (h:o.kind=6):z0k Tryz.prog (.fn 141) [.agg (lpV regs bs os),.agg o.f] [] fun v _=>v=.bool (z0x regs bs o):=by
 refine z01 r_ref12_fields k_ref12_fields (by simp) ?_
 have hC:o.f=[.i o.kind,.i o.d,.i o.e,.i o.a,.i o.b,.i o.c,.i o.buf,.u o.imm]:=rfl
 have hb3:∀ (x:Int) (b:Bool) {G:z03},bors G [.agg [.i regs,.lst (bfC bs) bs.length 3,.lst (loC os) os.length 8],.i x,.bool b] [.agg [.i regs,.lst (bfC bs) bs.length 3,.lst (loC os) os.length 8],.i x,.bool b]:=fun x b G=>bors_self _ (by simp[dats,LV.dat,z0o,z0s])
 unfold z0x
 simp[z0d,lpV,hC,h,hasD,hasE,hasA,z40,z3z,memK]
 refine z02 (z00 regs _ _ o.d true) (hb3 _ _) ?_
 cases e1:z06 regs o.d true with
 | false=>simp[e1]
 | true =>
 simp
 refine z02 (z00 regs _ _ o.e false) (hb3 _ _) ?_
 cases e2:z06 regs o.e false with
 | false=>simp[e2]
 | true =>
 simp
 refine z02 (z00 regs _ _ o.a true) (hb3 _ _) ?_
 cases e3:z06 regs o.a true with
 | false=>simp[e3]
 | true =>
 simp
 refine z02 (z00 regs _ _ o.b true) (hb3 _ _) ?_
 cases e4:z06 regs o.b true with
 | false=>simp[e4]
 | true =>
 simp
 refine z02 (z00 regs _ _ o.c false) (hb3 _ _) ?_
 cases e5:z06 regs o.c false with
 | false=>simp[e5]
 | true =>
 simp
 by_cases b0:o.buf=0
 case neg=>simp[b0]
 simp[b0]
theorem fields_7 (regs:Int) (bs:List Bf) (os:List Lo) (o:Lo) (h:o.kind=7):z0k Tryz.prog (.fn 141) [.agg (lpV regs bs os),.agg o.f] [] fun v _=>v=.bool (z0x regs bs o):=by
 refine z01 r_ref12_fields k_ref12_fields (by simp) ?_
 have hC:o.f=[.i o.kind,.i o.d,.i o.e,.i o.a,.i o.b,.i o.c,.i o.buf,.u o.imm]:=rfl
 have hb3:∀ (x:Int) (b:Bool) {G:z03},bors G [.agg [.i regs,.lst (bfC bs) bs.length 3,.lst (loC os) os.length 8],.i x,.bool b] [.agg [.i regs,.lst (bfC bs) bs.length 3,.lst (loC os) os.length 8],.i x,.bool b]:=fun x b G=>bors_self _ (by simp[dats,LV.dat,z0o,z0s])
 unfold z0x
 simp[z0d,lpV,hC,h,hasD,hasE,hasA,z40,z3z,memK]
 refine z02 (z00 regs _ _ o.d true) (hb3 _ _) ?_
 cases e1:z06 regs o.d true with
 | false=>simp[e1]
 | true =>
 simp
 refine z02 (z00 regs _ _ o.e false) (hb3 _ _) ?_
 cases e2:z06 regs o.e false with
 | false=>simp[e2]
 | true =>
 simp
 refine z02 (z00 regs _ _ o.a true) (hb3 _ _) ?_
 cases e3:z06 regs o.a true with
 | false=>simp[e3]
 | true =>
 simp
 refine z02 (z00 regs _ _ o.b true) (hb3 _ _) ?_
 cases e4:z06 regs o.b true with
 | false=>simp[e4]
 | true =>
 simp
 refine z02 (z00 regs _ _ o.c false) (hb3 _ _) ?_
 cases e5:z06 regs o.c false with
 | false=>simp[e5]
 | true =>
 simp
 by_cases b0:o.buf=0
 case neg=>simp[b0]
 simp[b0]
theorem fields_8 (regs:Int) (bs:List Bf) (os:List Lo) (o:Lo) (h:o.kind=8):z0k Tryz.prog (.fn 141) [.agg (lpV regs bs os),.agg o.f] [] fun v _=>v=.bool (z0x regs bs o):=by
 refine z01 r_ref12_fields k_ref12_fields (by simp) ?_
 have hC:o.f=[.i o.kind,.i o.d,.i o.e,.i o.a,.i o.b,.i o.c,.i o.buf,.u o.imm]:=rfl
 have hb3:∀ (x:Int) (b:Bool) {G:z03},bors G [.agg [.i regs,.lst (bfC bs) bs.length 3,.lst (loC os) os.length 8],.i x,.bool b] [.agg [.i regs,.lst (bfC bs) bs.length 3,.lst (loC os) os.length 8],.i x,.bool b]:=fun x b G=>bors_self _ (by simp[dats,LV.dat,z0o,z0s])
 unfold z0x
 simp[z0d,lpV,hC,h,hasD,hasE,hasA,z40,z3z,memK]
 refine z02 (z00 regs _ _ o.d true) (hb3 _ _) ?_
 cases e1:z06 regs o.d true with
 | false=>simp[e1]
 | true =>
 simp
 refine z02 (z00 regs _ _ o.e false) (hb3 _ _) ?_
 cases e2:z06 regs o.e false with
 | false=>simp[e2]
 | true =>
 simp
 refine z02 (z00 regs _ _ o.a true) (hb3 _ _) ?_
 cases e3:z06 regs o.a true with
 | false=>simp[e3]
 | true =>
 simp
 refine z02 (z00 regs _ _ o.b false) (hb3 _ _) ?_
 cases e4:z06 regs o.b false with
 | false=>simp[e4]
 | true =>
 simp
 refine z02 (z00 regs _ _ o.c false) (hb3 _ _) ?_
 cases e5:z06 regs o.c false with
 | false=>simp[e5]
 | true =>
 simp
 by_cases b0:o.buf=0
 case neg=>simp[b0]
 by_cases i1:1≤o.imm
 ·have i0:o.imm≠0:=by rintro q; rw[q] at i1; exact absurd i1 (by decide)
  simp[b0,i1,i0]
 ·simp[b0,i1]
theorem fields_9 (regs:Int) (bs:List Bf) (os:List Lo) (o:Lo) (h:o.kind=9):z0k Tryz.prog (.fn 141) [.agg (lpV regs bs os),.agg o.f] [] fun v _=>v=.bool (z0x regs bs o):=by
 refine z01 r_ref12_fields k_ref12_fields (by simp) ?_
 have hC:o.f=[.i o.kind,.i o.d,.i o.e,.i o.a,.i o.b,.i o.c,.i o.buf,.u o.imm]:=rfl
 have hb3:∀ (x:Int) (b:Bool) {G:z03},bors G [.agg [.i regs,.lst (bfC bs) bs.length 3,.lst (loC os) os.length 8],.i x,.bool b] [.agg [.i regs,.lst (bfC bs) bs.length 3,.lst (loC os) os.length 8],.i x,.bool b]:=fun x b G=>bors_self _ (by simp[dats,LV.dat,z0o,z0s])
 unfold z0x
 simp[z0d,lpV,hC,h,hasD,hasE,hasA,z40,z3z,memK]
 refine z02 (z00 regs _ _ o.d true) (hb3 _ _) ?_
 cases e1:z06 regs o.d true with
 | false=>simp[e1]
 | true =>
 simp
 refine z02 (z00 regs _ _ o.e false) (hb3 _ _) ?_
 cases e2:z06 regs o.e false with
 | false=>simp[e2]
 | true =>
 simp
 refine z02 (z00 regs _ _ o.a true) (hb3 _ _) ?_
 cases e3:z06 regs o.a true with
 | false=>simp[e3]
 | true =>
 simp
 refine z02 (z00 regs _ _ o.b false) (hb3 _ _) ?_
 cases e4:z06 regs o.b false with
 | false=>simp[e4]
 | true =>
 simp
 refine z02 (z00 regs _ _ o.c false) (hb3 _ _) ?_
 cases e5:z06 regs o.c false with
 | false=>simp[e5]
 | true =>
 simp
 by_cases b0:o.buf=0
 case neg=>simp[b0]
 by_cases i1:1≤o.imm
 ·have i0:o.imm≠0:=by rintro q; rw[q] at i1; exact absurd i1 (by decide)
  simp[b0,i1,i0]
 ·simp[b0,i1]
theorem zw9 (regs:Int) (bs:List Bf) (os:List Lo) (o:Lo) (h:o.kind=10):z0k Tryz.prog (.fn 141) [.agg (lpV regs bs os),.agg o.f] [] fun v _=>v=.bool (z0x regs bs o):=by
 refine z01 r_ref12_fields k_ref12_fields (by simp) ?_
 have hC:o.f=[.i o.kind,.i o.d,.i o.e,.i o.a,.i o.b,.i o.c,.i o.buf,.u o.imm]:=rfl
 have hb3:∀ (x:Int) (b:Bool) {G:z03},bors G [.agg [.i regs,.lst (bfC bs) bs.length 3,.lst (loC os) os.length 8],.i x,.bool b] [.agg [.i regs,.lst (bfC bs) bs.length 3,.lst (loC os) os.length 8],.i x,.bool b]:=fun x b G=>bors_self _ (by simp[dats,LV.dat,z0o,z0s])
 unfold z0x
 simp[z0d,lpV,hC,h,hasD,hasE,hasA,z40,z3z,memK]
 refine z02 (z00 regs _ _ o.d true) (hb3 _ _) ?_
 cases e1:z06 regs o.d true with
 | false=>simp[e1]
 | true =>
 simp
 refine z02 (z00 regs _ _ o.e true) (hb3 _ _) ?_
 cases e2:z06 regs o.e true with
 | false=>simp[e2]
 | true =>
 simp
 refine z02 (z00 regs _ _ o.a true) (hb3 _ _) ?_
 cases e3:z06 regs o.a true with
 | false=>simp[e3]
 | true =>
 simp
 refine z02 (z00 regs _ _ o.b true) (hb3 _ _) ?_
 cases e4:z06 regs o.b true with
 | false=>simp[e4]
 | true =>
 simp
 refine z02 (z00 regs _ _ o.c false) (hb3 _ _) ?_
 cases e5:z06 regs o.c false with
 | false=>simp[e5]
 | true =>
 simp
 by_cases de:o.d=o.e
 ·simp[de]
 simp[de]
 by_cases b0:o.buf=0
 case neg=>simp[b0]
 simp[b0]
theorem zwg (regs:Int) (bs:List Bf) (os:List Lo) (o:Lo) (h:o.kind=11):z0k Tryz.prog (.fn 141) [.agg (lpV regs bs os),.agg o.f] [] fun v _=>v=.bool (z0x regs bs o):=by
 refine z01 r_ref12_fields k_ref12_fields (by simp) ?_
 have hC:o.f=[.i o.kind,.i o.d,.i o.e,.i o.a,.i o.b,.i o.c,.i o.buf,.u o.imm]:=rfl
 have hb3:∀ (x:Int) (b:Bool) {G:z03},bors G [.agg [.i regs,.lst (bfC bs) bs.length 3,.lst (loC os) os.length 8],.i x,.bool b] [.agg [.i regs,.lst (bfC bs) bs.length 3,.lst (loC os) os.length 8],.i x,.bool b]:=fun x b G=>bors_self _ (by simp[dats,LV.dat,z0o,z0s])
 unfold z0x
 simp[z0d,lpV,hC,h,hasD,hasE,hasA,z40,z3z,memK]
 refine z02 (z00 regs _ _ o.d true) (hb3 _ _) ?_
 cases e1:z06 regs o.d true with
 | false=>simp[e1]
 | true =>
 simp
 refine z02 (z00 regs _ _ o.e true) (hb3 _ _) ?_
 cases e2:z06 regs o.e true with
 | false=>simp[e2]
 | true =>
 simp
 refine z02 (z00 regs _ _ o.a true) (hb3 _ _) ?_
 cases e3:z06 regs o.a true with
 | false=>simp[e3]
 | true =>
 simp
 refine z02 (z00 regs _ _ o.b true) (hb3 _ _) ?_
 cases e4:z06 regs o.b true with
 | false=>simp[e4]
 | true =>
 simp
 refine z02 (z00 regs _ _ o.c true) (hb3 _ _) ?_
 cases e5:z06 regs o.c true with
 | false=>simp[e5]
 | true =>
 simp
 by_cases de:o.d=o.e
 ·simp[de]
 simp[de]
 by_cases b0:o.buf=0
 case neg=>simp[b0]
 simp[b0]
theorem zuo (regs:Int) (bs:List Bf) (os:List Lo) (o:Lo) (h:o.kind=12):z0k Tryz.prog (.fn 141) [.agg (lpV regs bs os),.agg o.f] [] fun v _=>v=.bool (z0x regs bs o):=by
 refine z01 r_ref12_fields k_ref12_fields (by simp) ?_
 have hC:o.f=[.i o.kind,.i o.d,.i o.e,.i o.a,.i o.b,.i o.c,.i o.buf,.u o.imm]:=rfl
 have hb3:∀ (x:Int) (b:Bool) {G:z03},bors G [.agg [.i regs,.lst (bfC bs) bs.length 3,.lst (loC os) os.length 8],.i x,.bool b] [.agg [.i regs,.lst (bfC bs) bs.length 3,.lst (loC os) os.length 8],.i x,.bool b]:=fun x b G=>bors_self _ (by simp[dats,LV.dat,z0o,z0s])
 unfold z0x
 simp[z0d,lpV,hC,h,hasD,hasE,hasA,z40,z3z,memK]
 refine z02 (z00 regs _ _ o.d true) (hb3 _ _) ?_
 cases e1:z06 regs o.d true with
 | false=>simp[e1]
 | true =>
 simp
 refine z02 (z00 regs _ _ o.e true) (hb3 _ _) ?_
 cases e2:z06 regs o.e true with
 | false=>simp[e2]
 | true =>
 simp
 refine z02 (z00 regs _ _ o.a true) (hb3 _ _) ?_
 cases e3:z06 regs o.a true with
 | false=>simp[e3]
 | true =>
 simp
 refine z02 (z00 regs _ _ o.b true) (hb3 _ _) ?_
 cases e4:z06 regs o.b true with
 | false=>simp[e4]
 | true =>
 simp
 refine z02 (z00 regs _ _ o.c true) (hb3 _ _) ?_
 cases e5:z06 regs o.c true with
 | false=>simp[e5]
 | true =>
 simp
 by_cases de:o.d=o.e
 ·simp[de]
 simp[de]
 by_cases b0:o.buf=0
 case neg=>simp[b0]
 simp[b0]
theorem zw4 (regs:Int) (bs:List Bf) (os:List Lo) (o:Lo) (h:o.kind=13):z0k Tryz.prog (.fn 141) [.agg (lpV regs bs os),.agg o.f] [] fun v _=>v=.bool (z0x regs bs o):=by
 refine z01 r_ref12_fields k_ref12_fields (by simp) ?_
 have hC:o.f=[.i o.kind,.i o.d,.i o.e,.i o.a,.i o.b,.i o.c,.i o.buf,.u o.imm]:=rfl
 have hb3:∀ (x:Int) (b:Bool) {G:z03},bors G [.agg [.i regs,.lst (bfC bs) bs.length 3,.lst (loC os) os.length 8],.i x,.bool b] [.agg [.i regs,.lst (bfC bs) bs.length 3,.lst (loC os) os.length 8],.i x,.bool b]:=fun x b G=>bors_self _ (by simp[dats,LV.dat,z0o,z0s])
 unfold z0x
 simp[z0d,lpV,hC,h,hasD,hasE,hasA,z40,z3z,memK]
 refine z02 (z00 regs _ _ o.d true) (hb3 _ _) ?_
 cases e1:z06 regs o.d true with
 | false=>simp[e1]
 | true =>
 simp
 refine z02 (z00 regs _ _ o.e false) (hb3 _ _) ?_
 cases e2:z06 regs o.e false with
 | false=>simp[e2]
 | true =>
 simp
 refine z02 (z00 regs _ _ o.a true) (hb3 _ _) ?_
 cases e3:z06 regs o.a true with
 | false=>simp[e3]
 | true =>
 simp
 refine z02 (z00 regs _ _ o.b true) (hb3 _ _) ?_
 cases e4:z06 regs o.b true with
 | false=>simp[e4]
 | true =>
 simp
 refine z02 (z00 regs _ _ o.c true) (hb3 _ _) ?_
 cases e5:z06 regs o.c true with
 | false=>simp[e5]
 | true =>
 simp
 by_cases b0:o.buf=0
 case neg=>simp[b0]
 simp[b0]
theorem ztq (regs:Int) (bs:List Bf) (os:List Lo) (o:Lo) (h:o.kind=14):z0k Tryz.prog (.fn 141) [.agg (lpV regs bs os),.agg o.f] [] fun v _=>v=.bool (z0x regs bs o):=by
 refine z01 r_ref12_fields k_ref12_fields (by simp) ?_
 have hC:o.f=[.i o.kind,.i o.d,.i o.e,.i o.a,.i o.b,.i o.c,.i o.buf,.u o.imm]:=rfl
 have hb3:∀ (x:Int) (b:Bool) {G:z03},bors G [.agg [.i regs,.lst (bfC bs) bs.length 3,.lst (loC os) os.length 8],.i x,.bool b] [.agg [.i regs,.lst (bfC bs) bs.length 3,.lst (loC os) os.length 8],.i x,.bool b]:=fun x b G=>bors_self _ (by simp[dats,LV.dat,z0o,z0s])
 unfold z0x
 simp[z0d,lpV,hC,h,hasD,hasE,hasA,z40,z3z,memK]
 refine z02 (z00 regs _ _ o.d true) (hb3 _ _) ?_
 cases e1:z06 regs o.d true with
 | false=>simp[e1]
 | true =>
 simp
 refine z02 (z00 regs _ _ o.e false) (hb3 _ _) ?_
 cases e2:z06 regs o.e false with
 | false=>simp[e2]
 | true =>
 simp
 refine z02 (z00 regs _ _ o.a true) (hb3 _ _) ?_
 cases e3:z06 regs o.a true with
 | false =>
  by_cases a1:o.a=-1
  case neg=>simp[a1]
  simp[a1]
  refine z02 (z00 regs _ _ o.b false) (hb3 _ _) ?_
  cases e4:z06 regs o.b false with
  | false=>simp[e4]
  | true =>
  simp
  refine z02 (z00 regs _ _ o.c false) (hb3 _ _) ?_
  cases e5:z06 regs o.c false with
  | false=>simp[e5]
  | true =>
  simp
  by_cases b0:o.buf < 0
  ·have b1:¬ 0≤o.buf:=by omega
   simp[b0,b1]
  have b0':0≤o.buf:=by omega
  by_cases b2:(bs.length:Int)≤o.buf
  ·have b3:¬ o.buf < bs.length:=by omega
   simp[b0,b2,b3]
  have b3:o.buf < bs.length:=by omega
  obtain⟨n,hn⟩:=Int.eq_ofNat_of_zero_le b0'
  have hnl:n < bs.length:=by omega
  have q:=z33 hnl
  have q0:=zbi q
  have q1:=zej q
  have hl3:=zho hnl
  have hnl':¬ bs.length≤n:=by omega
  have n0:¬ (n:Int) < 0:=by omega
  simp[n0,hnl',hn,hnl,z05 q0,a1]
 | true =>
 simp
 refine z02 (z00 regs _ _ o.b false) (hb3 _ _) ?_
 cases e4:z06 regs o.b false with
 | false=>simp[e4]
 | true =>
 simp
 refine z02 (z00 regs _ _ o.c false) (hb3 _ _) ?_
 cases e5:z06 regs o.c false with
 | false=>simp[e5]
 | true =>
 simp
 by_cases b0:o.buf < 0
 ·have b1:¬ 0≤o.buf:=by omega
  simp[b0,b1]
 have b0':0≤o.buf:=by omega
 by_cases b2:(bs.length:Int)≤o.buf
 ·have b3:¬ o.buf < bs.length:=by omega
  simp[b0,b2,b3]
 have b3:o.buf < bs.length:=by omega
 obtain⟨n,hn⟩:=Int.eq_ofNat_of_zero_le b0'
 have hnl:n < bs.length:=by omega
 have q:=z33 hnl
 have q0:=zbi q
 have q1:=zej q
 have hl3:=zho hnl
 have hnl':¬ bs.length≤n:=by omega
 have n0:¬ (n:Int) < 0:=by omega
 by_cases a1:o.a=-1
 ·simp[n0,hnl',hn,hnl,z05 q0,a1]
 simp[n0,hnl',hn,hnl,z05 q0,a1]
theorem zv2 (regs:Int) (bs:List Bf) (os:List Lo) (o:Lo) (h:o.kind=15):z0k Tryz.prog (.fn 141) [.agg (lpV regs bs os),.agg o.f] [] fun v _=>v=.bool (z0x regs bs o):=by
 refine z01 r_ref12_fields k_ref12_fields (by simp) ?_
 have hC:o.f=[.i o.kind,.i o.d,.i o.e,.i o.a,.i o.b,.i o.c,.i o.buf,.u o.imm]:=rfl
 have hb3:∀ (x:Int) (b:Bool) {G:z03},bors G [.agg [.i regs,.lst (bfC bs) bs.length 3,.lst (loC os) os.length 8],.i x,.bool b] [.agg [.i regs,.lst (bfC bs) bs.length 3,.lst (loC os) os.length 8],.i x,.bool b]:=fun x b G=>bors_self _ (by simp[dats,LV.dat,z0o,z0s])
 unfold z0x
 simp[z0d,lpV,hC,h,hasD,hasE,hasA,z40,z3z,memK]
 refine z02 (z00 regs _ _ o.d false) (hb3 _ _) ?_
 cases e1:z06 regs o.d false with
 | false=>simp[e1]
 | true =>
 simp
 refine z02 (z00 regs _ _ o.e false) (hb3 _ _) ?_
 cases e2:z06 regs o.e false with
 | false=>simp[e2]
 | true =>
 simp
 refine z02 (z00 regs _ _ o.a true) (hb3 _ _) ?_
 cases e3:z06 regs o.a true with
 | false =>
  by_cases a1:o.a=-1
  case neg=>simp[a1]
  simp[a1]
  refine z02 (z00 regs _ _ o.b true) (hb3 _ _) ?_
  cases e4:z06 regs o.b true with
  | false=>simp[e4]
  | true =>
  simp
  refine z02 (z00 regs _ _ o.c false) (hb3 _ _) ?_
  cases e5:z06 regs o.c false with
  | false=>simp[e5]
  | true =>
  simp
  by_cases b0:o.buf < 0
  ·have b1:¬ 0≤o.buf:=by omega
   simp[b0,b1]
  have b0':0≤o.buf:=by omega
  by_cases b2:(bs.length:Int)≤o.buf
  ·have b3:¬ o.buf < bs.length:=by omega
   simp[b0,b2,b3]
  have b3:o.buf < bs.length:=by omega
  obtain⟨n,hn⟩:=Int.eq_ofNat_of_zero_le b0'
  have hnl:n < bs.length:=by omega
  have q:=z33 hnl
  have q0:=zbi q
  have q1:=zej q
  have hl3:=zho hnl
  have hnl':¬ bs.length≤n:=by omega
  have n0:¬ (n:Int) < 0:=by omega
  by_cases kb:(gbf bs n).kind=1
  ·simp[n0,hnl',hn,hnl,z05 q1,kb]
  simp[n0,hnl',hn,hnl,z05 q0,a1,z05 q1,kb]
 | true =>
 simp
 refine z02 (z00 regs _ _ o.b true) (hb3 _ _) ?_
 cases e4:z06 regs o.b true with
 | false=>simp[e4]
 | true =>
 simp
 refine z02 (z00 regs _ _ o.c false) (hb3 _ _) ?_
 cases e5:z06 regs o.c false with
 | false=>simp[e5]
 | true =>
 simp
 by_cases b0:o.buf < 0
 ·have b1:¬ 0≤o.buf:=by omega
  simp[b0,b1]
 have b0':0≤o.buf:=by omega
 by_cases b2:(bs.length:Int)≤o.buf
 ·have b3:¬ o.buf < bs.length:=by omega
  simp[b0,b2,b3]
 have b3:o.buf < bs.length:=by omega
 obtain⟨n,hn⟩:=Int.eq_ofNat_of_zero_le b0'
 have hnl:n < bs.length:=by omega
 have q:=z33 hnl
 have q0:=zbi q
 have q1:=zej q
 have hl3:=zho hnl
 have hnl':¬ bs.length≤n:=by omega
 have n0:¬ (n:Int) < 0:=by omega
 by_cases kb:(gbf bs n).kind=1
 ·simp[n0,hnl',hn,hnl,z05 q1,kb]
 by_cases a1:o.a=-1
 ·simp[n0,hnl',hn,hnl,z05 q0,a1,z05 q1,kb]
 simp[n0,hnl',hn,hnl,z05 q0,a1,z05 q1,kb]
theorem zvx (regs:Int) (bs:List Bf) (os:List Lo) (o:Lo) (h:o.kind=16):z0k Tryz.prog (.fn 141) [.agg (lpV regs bs os),.agg o.f] [] fun v _=>v=.bool (z0x regs bs o):=by
 refine z01 r_ref12_fields k_ref12_fields (by simp) ?_
 have hC:o.f=[.i o.kind,.i o.d,.i o.e,.i o.a,.i o.b,.i o.c,.i o.buf,.u o.imm]:=rfl
 have hb3:∀ (x:Int) (b:Bool) {G:z03},bors G [.agg [.i regs,.lst (bfC bs) bs.length 3,.lst (loC os) os.length 8],.i x,.bool b] [.agg [.i regs,.lst (bfC bs) bs.length 3,.lst (loC os) os.length 8],.i x,.bool b]:=fun x b G=>bors_self _ (by simp[dats,LV.dat,z0o,z0s])
 unfold z0x
 simp[z0d,lpV,hC,h,hasD,hasE,hasA,z40,z3z,memK]
 refine z02 (z00 regs _ _ o.d true) (hb3 _ _) ?_
 cases e1:z06 regs o.d true with
 | false=>simp[e1]
 | true =>
 simp
 refine z02 (z00 regs _ _ o.e false) (hb3 _ _) ?_
 cases e2:z06 regs o.e false with
 | false=>simp[e2]
 | true =>
 simp
 refine z02 (z00 regs _ _ o.a false) (hb3 _ _) ?_
 cases e3:z06 regs o.a false with
 | false=>simp[e3]
 | true =>
 simp
 refine z02 (z00 regs _ _ o.b false) (hb3 _ _) ?_
 cases e4:z06 regs o.b false with
 | false=>simp[e4]
 | true =>
 simp
 refine z02 (z00 regs _ _ o.c false) (hb3 _ _) ?_
 cases e5:z06 regs o.c false with
 | false=>simp[e5]
 | true =>
 simp
 by_cases b0:o.buf=0
 case neg=>simp[b0]
 by_cases i1:1≤o.imm
 ·have i0:o.imm≠0:=by rintro q; rw[q] at i1; exact absurd i1 (by decide)
  simp[b0,i1,i0]
 ·simp[b0,i1]
theorem zwk (regs:Int) (bs:List Bf) (os:List Lo) (o:Lo) (h:o.kind=17):z0k Tryz.prog (.fn 141) [.agg (lpV regs bs os),.agg o.f] [] fun v _=>v=.bool (z0x regs bs o):=by
 refine z01 r_ref12_fields k_ref12_fields (by simp) ?_
 have hC:o.f=[.i o.kind,.i o.d,.i o.e,.i o.a,.i o.b,.i o.c,.i o.buf,.u o.imm]:=rfl
 have hb3:∀ (x:Int) (b:Bool) {G:z03},bors G [.agg [.i regs,.lst (bfC bs) bs.length 3,.lst (loC os) os.length 8],.i x,.bool b] [.agg [.i regs,.lst (bfC bs) bs.length 3,.lst (loC os) os.length 8],.i x,.bool b]:=fun x b G=>bors_self _ (by simp[dats,LV.dat,z0o,z0s])
 unfold z0x
 simp[z0d,lpV,hC,h,hasD,hasE,hasA,z40,z3z,memK]
 refine z02 (z00 regs _ _ o.d false) (hb3 _ _) ?_
 cases e1:z06 regs o.d false with
 | false=>simp[e1]
 | true =>
 simp
 refine z02 (z00 regs _ _ o.e false) (hb3 _ _) ?_
 cases e2:z06 regs o.e false with
 | false=>simp[e2]
 | true =>
 simp
 refine z02 (z00 regs _ _ o.a false) (hb3 _ _) ?_
 cases e3:z06 regs o.a false with
 | false=>simp[e3]
 | true =>
 simp
 refine z02 (z00 regs _ _ o.b false) (hb3 _ _) ?_
 cases e4:z06 regs o.b false with
 | false=>simp[e4]
 | true =>
 simp
 refine z02 (z00 regs _ _ o.c false) (hb3 _ _) ?_
 cases e5:z06 regs o.c false with
 | false=>simp[e5]
 | true =>
 simp
 by_cases b0:o.buf=0
 case neg=>simp[b0]
 simp[b0]
theorem zfr (regs:Int) (bs:List Bf) (os:List Lo) (o:Lo):FnS Tryz.prog 141 [.agg (lpV regs bs os),.agg o.f] (.bool (z0p regs bs o)) []:=by
 refine FnS.val rfl ?_
 have hC:o.f=[.i o.kind,.i o.d,.i o.e,.i o.a,.i o.b,.i o.c,.i o.buf,.u o.imm]:=rfl
 by_cases k1:o.kind < 1
 ·have k0:¬ 1≤o.kind:=by omega
  refine z01 r_ref12_fields k_ref12_fields (by simp) ?_
  simp[z0d,lpV,hC,k1,k0,z0p]
 by_cases k17:17 < o.kind
 ·have k0:¬ o.kind≤17:=by omega
  refine z01 r_ref12_fields k_ref12_fields (by simp) ?_
  simp[z0d,lpV,hC,k1,k17,k0,z0p]
 have kk:1≤o.kind∧o.kind≤17:=by omega
 have hF:z0p regs bs o=z0x regs bs o:=by
  unfold z0p z0x; simp[kk]
 rw[hF]
 rcases zdr o.kind with h | h | h | h | h | h | h | h | h | h | h | h | h | h | h | h | h | h | h
 ·omega
 ·exact fields_1 regs bs os o h
 ·exact fields_2 regs bs os o h
 ·exact fields_3 regs bs os o h
 ·exact fields_4 regs bs os o h
 ·exact fields_5 regs bs os o h
 ·exact fields_6 regs bs os o h
 ·exact fields_7 regs bs os o h
 ·exact fields_8 regs bs os o h
 ·exact fields_9 regs bs os o h
 ·exact zw9 regs bs os o h
 ·exact zwg regs bs os o h
 ·exact zuo regs bs os o h
 ·exact zw4 regs bs os o h
 ·exact ztq regs bs os o h
 ·exact zv2 regs bs os o h
 ·exact zvx regs bs os o h
 ·exact zwk regs bs os o h
 ·omega
end Go.Proofs.YtodjkjimaheggaaGreat
