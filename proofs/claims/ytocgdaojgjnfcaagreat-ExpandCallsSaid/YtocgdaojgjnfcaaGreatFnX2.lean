/- Plans, looked at by the document: ref22.Check. -/
import Derived.Test.YtocgdaojgjnfcaaGreatFnX1
import Derived.Test.YtocgdaojgjnfcaaGreatFnMb
namespace Go.Proofs.YtocgdaojgjnfcaaGreat
open Go.Sv
set_option linter.unusedSimpArgs false
set_option maxRecDepth 10000
def c_ref22_varsMay:LC:=(.seq (.ops [.z 2 (.move (.c (.bool false)))]) (.seq (.ops [.z 3 (.move (.c (.i 0)))]) (.seq (.seq (.ops [.z 4 (.move (.c (.i 0)))]) (.block 0 (.loop (.seq (.seq (.ops [.m 6 4,.m 7 0,.z 8 (.lenSl (.t 7)),.z 9 (.bin .lss false 3 (.t 6) (.t 8))]) (.cond (.t 9) .skip (.exit 0))) (.seq (.block 1 (.seq (.ops [.m 12 0,.m 13 4,.z 14 (.ixAddr 3 (.t 12) (.t 13)),.z 15 (.loadN 3 (.t 14)),.z 5 (.alloc [(.i 0),(.bool false),(.i 0)]),⟨none,none,.store 3 (.t 5) (.t 15)⟩]) (.seq (.seq (.ops [.f 16 0 5,.l 17 16,.z 18 (.bin .lss true 3 (.t 17) (.c (.i 1))),.m 19 18,⟨some 20,(some (19,false)),.fieldAddr 0 (.t 5)⟩,⟨some 21,(some (19,false)),.load1 (.t 20)⟩,⟨some 22,(some (19,false)),.bin .gtr true 3 (.t 21) (.c (.i 512))⟩,.z 23 (.pick (.t 19) (.c (.bool true)) (.t 22)),.m 24 23,⟨some 25,(some (24,false)),.fieldAddr 2 (.t 5)⟩,⟨some 26,(some (24,false)),.load1 (.t 25)⟩,⟨some 27,(some (24,false)),.bin .lss true 3 (.t 26) (.c (.i 0))⟩,.z 28 (.pick (.t 24) (.c (.bool true)) (.t 27)),.m 29 28,⟨some 30,(some (29,false)),.fieldAddr 2 (.t 5)⟩,⟨some 31,(some (29,false)),.load1 (.t 30)⟩,⟨some 32,(some (29,false)),.bin .gtr true 3 (.t 31) (.c (.i 3))⟩,.z 33 (.pick (.t 29) (.c (.bool true)) (.t 32)),.m 34 33,⟨some 35,(some (34,false)),.fieldAddr 2 (.t 5)⟩,⟨some 36,(some (34,false)),.load1 (.t 35)⟩,⟨some 37,(some (34,false)),.bin .gtr true 3 (.t 36) (.c (.i 0))⟩,⟨some 38,(some (34,false)),.move (.t 37)⟩,⟨some 39,(some (38,true)),.move (.t 3)⟩,⟨some 40,(some (38,true)),.move (.t 4)⟩,⟨some 41,(some (38,true)),.bin .lss false 3 (.t 39) (.t 40)⟩,⟨some 42,(some (34,false)),.pick (.t 38) (.t 41) (.c (.bool false))⟩,.z 43 (.pick (.t 34) (.c (.bool true)) (.t 42)),.m 44 43,⟨some 45,(some (44,false)),.fieldAddr 2 (.t 5)⟩,⟨some 46,(some (44,false)),.load1 (.t 45)⟩,⟨some 47,(some (44,false)),.bin .eql true 3 (.t 46) (.c (.i 1))⟩,⟨some 48,(some (44,false)),.move (.t 47)⟩,⟨some 49,(some (48,true)),.fieldAddr 1 (.t 5)⟩,⟨some 50,(some (48,true)),.load1 (.t 49)⟩,⟨some 51,(some (44,false)),.pick (.t 48) (.t 50) (.c (.bool false))⟩,.z 52 (.pick (.t 44) (.c (.bool true)) (.t 51)),.m 53 52,⟨some 54,(some (53,false)),.fieldAddr 2 (.t 5)⟩,⟨some 55,(some (53,false)),.load1 (.t 54)⟩,⟨some 56,(some (53,false)),.bin .gtr true 3 (.t 55) (.c (.i 1))⟩,⟨some 57,(some (53,false)),.move (.t 56)⟩,⟨some 58,(some (57,true)),.fieldAddr 1 (.t 5)⟩,⟨some 59,(some (57,true)),.load1 (.t 58)⟩,⟨some 60,(some (57,true)),.un .not (.t 59)⟩,⟨some 61,(some (53,false)),.pick (.t 57) (.t 60) (.c (.bool false))⟩,.z 62 (.pick (.t 53) (.c (.bool true)) (.t 61))]) (.cond (.t 62) (.seq (.ops [.z 2 (.move (.c (.bool false)))]) .ret) .skip)) (.seq (.ops [.f 63 2 5,.l 64 63,.z 65 (.bin .gtr true 3 (.t 64) (.c (.i 0)))]) (.cond (.t 65) (.ops [.m 66 3,.z 67 (.bin .add true 3 (.t 66) (.c (.i 1))),.m 3 67]) .skip))))) (.ops [.m 10 4,.z 11 (.bin .add true 3 (.t 10) (.c (.i 1))),.m 4 11])))))) (.seq (.ops [.m 68 0,.z 69 (.lenSl (.t 68)),.z 70 (.bin .geq true 3 (.t 69) (.c (.i 1))),.m 71 70,⟨some 72,(some (71,true)),.move (.t 0)⟩,⟨some 73,(some (71,true)),.lenSl (.t 72)⟩,⟨some 74,(some (71,true)),.bin .leq true 3 (.t 73) (.c (.i 256))⟩,.z 75 (.pick (.t 71) (.t 74) (.c (.bool false))),.m 76 75,⟨some 77,(some (76,true)),.move (.t 3)⟩,⟨some 78,(some (76,true)),.bin .leq true 3 (.t 77) (.c (.i 12))⟩,.z 79 (.pick (.t 76) (.t 78) (.c (.bool false))),.m 2 79]) .ret))))
theorem r_ref22_varsMay:resFn Tryz.prog 106=some ⟨80,c_ref22_varsMay.r,[.tmp 2]⟩:=by kernel_rfl
theorem k_ref22_varsMay:c_ref22_varsMay.ok=true:=by kernel_rfl
def c_ref22_placeMay:LC:=(.seq (.ops [.z 2 (.box (.t 0)),.z 3 (.box (.t 1)),.z 4 (.move (.c (.bool false)))]) (.seq (.draw [(.f 5 0 3,[]),(.l 6 5,[]),(.z 7 (.bin .geq true 3 (.t 6) (.c (.i 0))),[]),(.m 8 7,[]),(⟨some 9,(some (8,true)),.fieldAddr 0 (.t 3)⟩,[]),(⟨some 10,(some (8,true)),.load1 (.t 9)⟩,[]),(⟨some 11,(some (8,true)),.fieldAddr 0 (.t 2)⟩,[]),(⟨some 12,(some (8,true)),.load1 (.t 11)⟩,[]),(⟨some 13,(some (8,true)),.lenSl (.t 12)⟩,[]),(⟨some 14,(some (8,true)),.bin .lss false 3 (.t 10) (.t 13)⟩,[]),(.z 15 (.pick (.t 8) (.t 14) (.c (.bool false))),[]),(.m 16 15,[]),(⟨some 17,(some (16,true)),.fieldAddr 2 (.t 3)⟩,[]),(⟨some 18,(some (16,true)),.load1 (.t 17)⟩,[]),(⟨some 19,(some (16,true)),.bin .geq true 3 (.t 18) (.c (.i 1))⟩,[]),(.z 20 (.pick (.t 16) (.t 19) (.c (.bool false))),[]),(.m 21 20,[]),(⟨some 22,(some (21,true)),.fieldAddr 2 (.t 3)⟩,[]),(⟨some 23,(some (21,true)),.load1 (.t 22)⟩,[]),(⟨some 24,(some (21,true)),.bin .leq true 3 (.t 23) (.c (.i 32768))⟩,[]),(.z 25 (.pick (.t 21) (.t 24) (.c (.bool false))),[]),(.m 26 25,[]),(⟨some 27,(some (26,true)),.fieldAddr 1 (.t 3)⟩,[]),(⟨some 28,(some (26,true)),.load1 (.t 27)⟩,[]),(⟨some 29,(some (26,true)),.bin .geq true 3 (.t 28) (.c (.i 0))⟩,[]),(.z 30 (.pick (.t 26) (.t 29) (.c (.bool false))),[]),(.m 31 30,[]),(⟨some 32,(some (31,true)),.fieldAddr 1 (.t 3)⟩,[]),(⟨some 33,(some (31,true)),.load1 (.t 32)⟩,[]),(⟨some 34,(some (31,true)),.fieldAddr 0 (.t 2)⟩,[]),(⟨some 35,(some (31,true)),.load1 (.t 34)⟩,[]),(⟨some 36,(some (31,true)),.fieldAddr 0 (.t 3)⟩,[]),(⟨some 37,(some (31,true)),.load1 (.t 36)⟩,[]),(⟨some 38,(some (31,true)),.ixAddr 3 (.t 35) (.t 37)⟩,[]),(⟨some 39,(some (31,true)),.fieldAddr 0 (.t 38)⟩,[]),(⟨some 40,(some (31,true)),.load1 (.t 39)⟩,[]),(⟨some 41,(some (31,true)),.bin .leq false 3 (.t 33) (.t 40)⟩,[]),(.z 42 (.pick (.t 31) (.t 41) (.c (.bool false))),[]),(.m 43 42,[]),(⟨some 44,(some (43,true)),.fieldAddr 2 (.t 3)⟩,[]),(⟨some 45,(some (43,true)),.load1 (.t 44)⟩,[]),(⟨some 46,(some (43,true)),.fieldAddr 0 (.t 2)⟩,[]),(⟨some 47,(some (43,true)),.load1 (.t 46)⟩,[]),(⟨some 48,(some (43,true)),.fieldAddr 0 (.t 3)⟩,[]),(⟨some 49,(some (43,true)),.load1 (.t 48)⟩,[]),(⟨some 50,(some (43,true)),.ixAddr 3 (.t 47) (.t 49)⟩,[]),(⟨some 51,(some (43,true)),.fieldAddr 0 (.t 50)⟩,[]),(⟨some 52,(some (43,true)),.load1 (.t 51)⟩,[]),(⟨some 53,(some (43,true)),.fieldAddr 1 (.t 3)⟩,[]),(⟨some 54,(some (43,true)),.load1 (.t 53)⟩,[]),(⟨some 55,(some (43,true)),.bin .sub false 3 (.t 52) (.t 54)⟩,[]),(⟨some 56,(some (43,true)),.bin .leq false 3 (.t 45) (.t 55)⟩,[]),(.z 57 (.pick (.t 43) (.t 56) (.c (.bool false))),[]),(.m 4 57,[])]) .ret))
theorem r_ref22_placeMay:resFn Tryz.prog 108=some ⟨58,c_ref22_placeMay.r,[.tmp 4]⟩:=by kernel_rfl
theorem k_ref22_placeMay:c_ref22_placeMay.ok=true:=by kernel_rfl
def c_ref22_Check:LC:=(.seq (.ops [.z 3 (.box (.t 1)),.z 4 (.move (.c (.i 0)))]) (.seq (.seq (.ops [.m 13 0,.z 14 (.callV (.c (.fn (.func 106) [] [])) [.t 13]),.z 15 (.un .not (.t 14)),.m 16 15,⟨some 17,(some (16,false)),.fieldAddr 0 (.t 3)⟩,⟨some 18,(some (16,false)),.load1 (.t 17)⟩,⟨some 19,(some (16,false)),.lenSl (.t 18)⟩,⟨some 20,(some (16,false)),.bin .lss true 3 (.t 19) (.c (.i 1))⟩,.z 21 (.pick (.t 16) (.c (.bool true)) (.t 20)),.m 22 21,⟨some 23,(some (22,false)),.fieldAddr 1 (.t 3)⟩,⟨some 24,(some (22,false)),.load1 (.t 23)⟩,⟨some 25,(some (22,false)),.lenSl (.t 24)⟩,⟨some 26,(some (22,false)),.move (.t 0)⟩,⟨some 27,(some (22,false)),.lenSl (.t 26)⟩,⟨some 28,(some (22,false)),.bin .neq false 3 (.t 25) (.t 27)⟩,.z 29 (.pick (.t 22) (.c (.bool true)) (.t 28))]) (.cond (.t 29) (.seq (.ops [.z 4 (.move (.c (.i 2)))]) .ret) .skip)) (.seq (.ops [.f 31 0 3,.l 32 31,.z 33 (.build [(.i 0),.nilSl,.nilSl] [(1,1,.t 32)]),.z 34 (.callV (.c (.fn (.func 107) [] [])) [.t 33]),.m 30 34,.z 35 (.extract 0 (.t 30)),.z 36 (.extract 1 (.t 30)),.m 5 35,.m 6 36]) (.seq (.seq (.ops [.m 37 6,.z 38 (.bin .neq true 27 (.t 37) (.c (.i 0)))]) (.cond (.t 38) (.seq (.ops [.z 4 (.move (.c (.i 2)))]) .ret) .skip)) (.seq (.seq (.ops [.z 7 (.move (.c (.i 0)))]) (.block 0 (.loop (.seq (.seq (.ops [.m 39 7,.m 40 0,.z 41 (.lenSl (.t 40)),.z 42 (.bin .lss false 3 (.t 39) (.t 41))]) (.cond (.t 42) .skip (.exit 0))) (.seq (.block 1 (.seq (.draw [(.f 45 1 3,[]),(.l 46 45,[]),(.m 47 7,[]),(.z 48 (.ixAddr 3 (.t 46) (.t 47)),[]),(.z 49 (.loadN 3 (.t 48)),[]),(.m 50 0,[]),(.m 51 7,[]),(.z 52 (.ixAddr 3 (.t 50) (.t 51)),[]),(.z 53 (.loadN 3 (.t 52)),[]),(.z 8 (.alloc [(.i 0),(.i 0),(.i 0)]),[(.z 53 (.loadN 3 (.t 52)),false),(.z 49 (.loadN 3 (.t 48)),false),(.l 46 45,false)]),(.z 9 (.alloc [(.i 0),(.bool false),(.i 0)]),[(.z 8 (.alloc [(.i 0),(.i 0),(.i 0)]),true),(.z 53 (.loadN 3 (.t 52)),false),(.z 49 (.loadN 3 (.t 48)),false),(.l 46 45,false)]),(⟨none,none,.store 3 (.t 8) (.t 49)⟩,[(.z 53 (.loadN 3 (.t 52)),false)]),(⟨none,none,.store 3 (.t 9) (.t 53)⟩,[])]) (.seq (.seq (.ops [.z 54 (.loadN 8 (.t 3)),.z 55 (.loadN 3 (.t 8)),.z 56 (.callV (.c (.fn (.func 108) [] [])) [.t 54,.t 55]),.z 57 (.un .not (.t 56)),.m 58 57,⟨some 59,(some (58,false)),.fieldAddr 2 (.t 8)⟩,⟨some 60,(some (58,false)),.load1 (.t 59)⟩,⟨some 61,(some (58,false)),.fieldAddr 0 (.t 9)⟩,⟨some 62,(some (58,false)),.load1 (.t 61)⟩,⟨some 63,(some (58,false)),.bin .neq false 3 (.t 60) (.t 62)⟩,.z 64 (.pick (.t 58) (.c (.bool true)) (.t 63))]) (.cond (.t 64) (.seq (.ops [.z 4 (.move (.c (.i 2)))]) .ret) .skip)) (.seq (.ops [.f 65 0 3,.l 66 65,.f 67 0 8,.l 68 67,.z 69 (.ixAddr 3 (.t 66) (.t 68)),.z 70 (.loadN 3 (.t 69)),.z 10 (.alloc [(.i 0),(.i 0),(.bool false)]),⟨none,none,.store 3 (.t 10) (.t 70)⟩]) (.seq (.ops [.f 71 2 9,.l 72 71,.z 73 (.bin .eql true 3 (.t 72) (.c (.i 1))),.m 74 73,⟨some 75,(some (74,false)),.fieldAddr 2 (.t 9)⟩,⟨some 76,(some (74,false)),.load1 (.t 75)⟩,⟨some 77,(some (74,false)),.bin .eql true 3 (.t 76) (.c (.i 2))⟩,.z 78 (.pick (.t 74) (.c (.bool true)) (.t 77)),.m 11 78]) (.seq (.ops [.f 79 1 10,.l 80 79,.z 81 (.bin .eql true 3 (.t 80) (.c (.i 1))),.m 82 81,⟨some 83,(some (82,true)),.move (.t 11)⟩,⟨some 84,(some (82,true)),.un .not (.t 83)⟩,.z 85 (.pick (.t 82) (.t 84) (.c (.bool false))),.m 86 85,⟨some 87,(some (86,false)),.fieldAddr 1 (.t 10)⟩,⟨some 88,(some (86,false)),.load1 (.t 87)⟩,⟨some 89,(some (86,false)),.bin .eql true 3 (.t 88) (.c (.i 2))⟩,⟨some 90,(some (86,false)),.move (.t 89)⟩,⟨some 91,(some (90,true)),.move (.t 11)⟩,⟨some 92,(some (86,false)),.pick (.t 90) (.t 91) (.c (.bool false))⟩,.z 93 (.pick (.t 86) (.c (.bool true)) (.t 92)),.m 94 93,⟨some 95,(some (94,false)),.fieldAddr 1 (.t 9)⟩,⟨some 96,(some (94,false)),.load1 (.t 95)⟩,⟨some 97,(some (94,false)),.fieldAddr 2 (.t 10)⟩,⟨some 98,(some (94,false)),.load1 (.t 97)⟩,⟨some 99,(some (94,false)),.bin .neq false 4 (.t 96) (.t 98)⟩,.z 100 (.pick (.t 94) (.c (.bool true)) (.t 99))]) (.cond (.t 100) (.seq (.ops [.z 4 (.move (.c (.i 2)))]) .ret) .skip))))))) (.ops [.m 43 7,.z 44 (.bin .add true 3 (.t 43) (.c (.i 1))),.m 7 44])))))) (.seq (.seq (.ops [.z 12 (.move (.c (.i 0)))]) (.block 2 (.loop (.seq (.seq (.ops [.m 101 12,.z 102 (.bin .lss true 3 (.t 101) (.c (.i 2)))]) (.cond (.t 102) .skip (.exit 2))) (.seq (.block 3 (.seq (.draw [(.z 105 (.loadN 8 (.t 3)),[]),(.m 106 12,[]),(.f 107 2 3,[]),(.z 108 (.ixAddrArr 2 3 (.t 107) (.t 106)),[]),(.z 109 (.loadN 3 (.t 108)),[]),(.z 110 (.callV (.c (.fn (.func 108) [] [])) [.t 105,.t 109]),[]),(.z 111 (.un .not (.t 110)),[]),(.m 112 111,[]),(⟨some 113,(some (112,false)),.fieldAddr 0 (.t 3)⟩,[]),(⟨some 114,(some (112,false)),.load1 (.t 113)⟩,[]),(⟨some 115,(some (112,false)),.move (.t 12)⟩,[]),(⟨some 116,(some (112,false)),.fieldAddr 2 (.t 3)⟩,[]),(⟨some 117,(some (112,false)),.ixAddrArr 2 3 (.t 116) (.t 115)⟩,[]),(⟨some 118,(some (112,false)),.fieldAddr 0 (.t 117)⟩,[]),(⟨some 119,(some (112,false)),.load1 (.t 118)⟩,[]),(⟨some 120,(some (112,false)),.ixAddr 3 (.t 114) (.t 119)⟩,[]),(⟨some 121,(some (112,false)),.fieldAddr 1 (.t 120)⟩,[]),(⟨some 122,(some (112,false)),.load1 (.t 121)⟩,[]),(⟨some 123,(some (112,false)),.bin .eql true 3 (.t 122) (.c (.i 1))⟩,[]),(.z 124 (.pick (.t 112) (.c (.bool true)) (.t 123)),[]),(.m 125 124,[]),(⟨some 126,(some (125,false)),.fieldAddr 0 (.t 3)⟩,[]),(⟨some 127,(some (125,false)),.load1 (.t 126)⟩,[]),(⟨some 128,(some (125,false)),.move (.t 12)⟩,[]),(⟨some 129,(some (125,false)),.fieldAddr 2 (.t 3)⟩,[]),(⟨some 130,(some (125,false)),.ixAddrArr 2 3 (.t 129) (.t 128)⟩,[]),(⟨some 131,(some (125,false)),.fieldAddr 0 (.t 130)⟩,[]),(⟨some 132,(some (125,false)),.load1 (.t 131)⟩,[]),(⟨some 133,(some (125,false)),.ixAddr 3 (.t 127) (.t 132)⟩,[]),(⟨some 134,(some (125,false)),.fieldAddr 2 (.t 133)⟩,[]),(⟨some 135,(some (125,false)),.load1 (.t 134)⟩,[]),(⟨some 136,(some (125,false)),.move (.t 12)⟩,[]),(⟨some 137,(some (125,false)),.bin .eql true 3 (.t 136) (.c (.i 1))⟩,[]),(⟨some 138,(some (125,false)),.bin .neq false 4 (.t 135) (.t 137)⟩,[]),(.z 139 (.pick (.t 125) (.c (.bool true)) (.t 138)),[])]) (.cond (.t 139) (.seq (.ops [.z 4 (.move (.c (.i 2)))]) .ret) .skip))) (.ops [.m 103 12,.z 104 (.bin .add true 3 (.t 103) (.c (.i 1))),.m 12 104])))))) (.seq (.ops [.z 4 (.move (.c (.i 0)))]) .ret)))))))
theorem r_ref22_Check:resFn Tryz.prog 26=some ⟨140,c_ref22_Check.r,[.tmp 4]⟩:=by kernel_rfl
theorem k_ref22_Check:c_ref22_Check.ok=true:=by kernel_rfl
def c_ref22_Has:LC:=(.seq (.ops [.z 2 (.move (.c (.bool false)))]) (.seq (.ops [.m 3 0,.z 4 (.bin .geq true 3 (.t 3) (.c (.i 1))),.m 5 4,⟨some 6,(some (5,true)),.move (.t 0)⟩,⟨some 7,(some (5,true)),.bin .leq true 3 (.t 6) (.c (.i 11))⟩,.z 8 (.pick (.t 5) (.t 7) (.c (.bool false))),.m 9 8,⟨some 10,(some (9,false)),.move (.t 0)⟩,⟨some 11,(some (9,false)),.bin .eql true 3 (.t 10) (.c (.i 14))⟩,.z 12 (.pick (.t 9) (.c (.bool true)) (.t 11)),.m 2 12]) .ret))
theorem r_ref22_Has:resFn Tryz.prog 28=some ⟨13,c_ref22_Has.r,[.tmp 2]⟩:=by kernel_rfl
theorem k_ref22_Has:c_ref22_Has.ok=true:=by kernel_rfl
def c_ref22_Public:LC:=(.seq (.ops [.z 3 (.box (.t 1)),.z 4 (.move (.c (.bool false)))]) (.seq (.ops [.f 5 1 3,.l 6 5,.z 7 (.bin .geq true 3 (.t 6) (.c (.i 0))),.m 8 7,⟨some 9,(some (8,true)),.fieldAddr 1 (.t 3)⟩,⟨some 10,(some (8,true)),.load1 (.t 9)⟩,⟨some 11,(some (8,true)),.move (.t 0)⟩,⟨some 12,(some (8,true)),.lenSl (.t 11)⟩,⟨some 13,(some (8,true)),.bin .lss false 3 (.t 10) (.t 12)⟩,.z 14 (.pick (.t 8) (.t 13) (.c (.bool false))),.m 15 14,⟨some 16,(some (15,true)),.move (.t 0)⟩,⟨some 17,(some (15,true)),.fieldAddr 1 (.t 3)⟩,⟨some 18,(some (15,true)),.load1 (.t 17)⟩,⟨some 19,(some (15,true)),.ixAddr 3 (.t 16) (.t 18)⟩,⟨some 20,(some (15,true)),.fieldAddr 1 (.t 19)⟩,⟨some 21,(some (15,true)),.load1 (.t 20)⟩,⟨some 22,(some (15,true)),.un .not (.t 21)⟩,.z 23 (.pick (.t 15) (.t 22) (.c (.bool false))),.m 4 23]) .ret))
theorem r_ref22_Public:resFn Tryz.prog 30=some ⟨24,c_ref22_Public.r,[.tmp 4]⟩:=by kernel_rfl
theorem k_ref22_Public:c_ref22_Public.ok=true:=by kernel_rfl
theorem ref22_varsMay_ok (vs:List Vr) (hl:vs.length≤9223372036854775807):FnS Tryz.prog 106 [.lst (vsC vs) vs.length 3] (.bool (varsB vs)) []:=by
 refine FnS.val rfl (call_body r_ref22_varsMay k_ref22_varsMay (by simp) ?_)
 simp[c_ref22_varsMay]
 refine loop_nx (fun ρ D G N=>∃ i p:Nat,D=[]∧N+i=vs.length∧p≤i∧lk ρ 0=.lst (vsC vs) vs.length 3∧lk ρ 3=.i p∧lk ρ 4=.i i∧vgo i p (vs.drop i)=vgo 0 0 vs) (N:=vs.length) ⟨0,0,by simp⟩ ?_
 rintro N ρ D G ⟨i,p,rfl,hN,hpi,h0,h3,h4,hv⟩ Nx hNx
 by_cases g:i < vs.length
 ·have hg:=at_gv g
  have q3:=vs_three hg
  have hq:=vs_lt g
  rw[drop_gv g] at hv
  have hf:(gv vs i).f=[.i (gv vs i).limbs,.bool (gv vs i).sec,.i (gv vs i).mode]:=rfl
  generalize gv vs i=v at *
  have bad:vgo i p (v::vs.drop (i+1))=none→varsB vs=false:=fun h=>by rw[h] at hv; simp[varsB,←hv]
  by_cases b1:v.limbs < 1
  ·simp[h0,h3,h4,g,q3,hq,hf,b1]
   exact bad (by simp[vgo,vrBad,b1])
  by_cases b2:512 < v.limbs
  ·simp[h0,h3,h4,g,q3,hq,hf,b1,b2]
   exact bad (by simp[vgo,vrBad,b1,b2])
  by_cases b3:v.mode < 0
  ·simp[h0,h3,h4,g,q3,hq,hf,b1,b2,b3]
   exact bad (by simp[vgo,vrBad,b1,b2,b3])
  by_cases b4:3 < v.mode
  ·simp[h0,h3,h4,g,q3,hq,hf,b1,b2,b3,b4]
   exact bad (by simp[vgo,vrBad,b1,b2,b3,b4])
  by_cases b5:v.mode=0
  ·simp[h0,h3,h4,g,q3,hq,hf,b1,b2,b3,b4,b5]
   refine⟨by omega,hNx _ _ _ ⟨N - 1,by omega,i+1,p,rfl,by omega,by omega,by simp[h0],by simp[h3],by simp,?_⟩⟩
   rw[←hv]; simp[vgo,vrBad,b1,b2,b3,b4,b5]
  have b5':0 < v.mode:=by omega
  by_cases b6:p < i
  ·simp[h0,h3,h4,g,q3,hq,hf,b1,b2,b3,b4,b5,b5',b6]
   exact bad (by simp[vgo,vrBad,b1,b2,b3,b4,b5,b6])
  by_cases bm:v.mode=1
  ·have bm':¬ 1 < v.mode:=by omega
   cases hs:v.sec with
   | true =>
    simp[h0,h3,h4,g,q3,hq,hf,b1,b2,b3,b4,b5,b5',b6,bm,bm',hs]
    exact bad (by simp[vgo,vrBad,b1,b2,b3,b4,b5,b6,hs,bm])
   | false =>
    simp[h0,h3,h4,g,q3,hq,hf,b1,b2,b3,b4,b5,b5',b6,bm,bm',hs]
    refine⟨by omega,by omega,hNx _ _ _ ⟨N - 1,by omega,i+1,p+1,rfl,by omega,by omega,by simp[h0],by simp,by simp,?_⟩⟩
    rw[←hv]; simp[vgo,vrBad,b1,b2,b3,b4,b5,b6,hs,bm]
  ·have bm':1 < v.mode:=by omega
   cases hs:v.sec with
   | false =>
    simp[h0,h3,h4,g,q3,hq,hf,b1,b2,b3,b4,b5,b5',b6,bm,bm',hs]
    exact bad (by simp[vgo,vrBad,b1,b2,b3,b4,b5,b6,hs,bm])
   | true =>
    simp[h0,h3,h4,g,q3,hq,hf,b1,b2,b3,b4,b5,b5',b6,bm,bm',hs]
    refine⟨by omega,by omega,hNx _ _ _ ⟨N - 1,by omega,i+1,p+1,rfl,by omega,by omega,by simp[h0],by simp,by simp,?_⟩⟩
    rw[←hv]; simp[vgo,vrBad,b1,b2,b3,b4,b5,b6,hs,bm]
 ·have ei:i=vs.length:=by omega
  rw[List.drop_of_length_le (by omega)] at hv
  have hv2:vgo 0 0 vs=some p:=by rw[←hv]; rfl
  by_cases g1:1≤vs.length
  ·by_cases g2:vs.length≤256
   ·simp[h0,h3,h4,g,varsB,hv2,g1,g2]
    omega
   ·simp[h0,h3,h4,g,varsB,hv2,g1,g2]
    omega
  ·simp[h0,h3,h4,g,varsB,hv2,g1]
   omega
theorem ref22_placeMay_ok (bs:List Bf) (ps:List Pc) (w0 w1 x:Pc) (hs:∀ b∈bs,b.size≤65536):FnS Tryz.prog 108 [.agg (plV bs ps w0 w1),.agg x.f] (.bool (liesB bs x)) []:=by
 refine FnS.val rfl (call_body r_ref22_placeMay k_ref22_placeMay (by simp) ?_)
 by_cases e1:0≤x.buf
 case neg=>simp[c_ref22_placeMay,plV,Pc.f,liesB,e1]
 by_cases e2:x.buf < (bs.length:Int)
 case neg=>simp[c_ref22_placeMay,plV,Pc.f,liesB,e1,e2]
 by_cases e3:1≤x.size
 case neg=>simp[c_ref22_placeMay,plV,Pc.f,liesB,e1,e2,e3]
 by_cases e4:x.size≤32768
 case neg=>simp[c_ref22_placeMay,plV,Pc.f,liesB,e1,e2,e3,e4]
 by_cases e5:0≤x.at_
 case neg=>simp[c_ref22_placeMay,plV,Pc.f,liesB,e1,e2,e3,e4,e5]
 obtain⟨n,hn⟩:=Int.eq_ofNat_of_zero_le e1
 have hlt:n < bs.length:=by omega
 have q0:=bf_at0 (at_gbf hlt)
 have hq:=bf_lt hlt
 have:=hs _ (List.mem_of_getElem? (at_gbf hlt))
 by_cases h6:x.at_≤(gbf bs n).size
 ·simp[c_ref22_placeMay,plV,Pc.f,liesB,e3,e4,e5,hn,hlt,nthL_at q0,h6]
  try omega
 ·simp[c_ref22_placeMay,plV,Pc.f,liesB,e3,e4,e5,hn,hlt,nthL_at q0,h6]
theorem chkR_bufs (bs:List Bf):(chkR 0 bs []).2=bufsE bs:=by
 unfold chkR bufsE
 by_cases h1:32 < bs.length
 ·rw[if_pos (by omega),if_pos h1]
 rw[if_neg (by simp; omega),if_neg h1]
 split
 ·rfl
 ·rw[if_neg (by omega)]
  split
  ·rfl
  ·rfl
theorem ref22_Check_ok (vs:List Vr) (bs:List Bf) (ps:List Pc) (w0 w1:Pc) (hv:vs.length≤1000000) :
  FnS Tryz.prog 26 [.lst (vsC vs) vs.length 3,.agg (plV bs ps w0 w1)] (.i (planE vs bs ps w0 w1)) []:=by
 refine FnS.val rfl (call_body r_ref22_Check k_ref22_Check (by simp) ?_)
 have bad:planB vs bs ps w0 w1=false→planE vs bs ps w0 w1=2:=fun h=>by simp[planE,h]
 simp[c_ref22_Check]
 refine CallL_F (ref22_varsMay_ok vs (by omega)) (bors_self _ (by simp[dats,LV.dat,vsC_dats])) ?_
 cases hvB:varsB vs with
 | false=>simp; exact (bad (by simp[planB,hvB])).symm
 | true =>
 by_cases g1:(bs.length:Int) < 1
 ·simp[plV,g1]; exact (bad (by simp[planB,show ¬ 1≤bs.length by omega])).symm
 by_cases g2:ps.length=vs.length
 case neg =>
  have g2':¬ (ps.length:Int)=(vs.length:Int):=by omega
  simp[plV,g1,g2,g2']; exact (bad (by simp[planB,g2])).symm
 simp[plV,g1,g2]
 refine CallL_args (args':=[.agg (lpV 0 bs [])]) (fun c r h=>?_) ?_
 ·cases h with
  | cons e1 es=>cases e1 with
   | agg e1=>cases e1 with
    | cons a1 e1=>cases e1 with
     | cons a2 e1=>cases e1 with
      | cons a3 e1=>exact .cons (.agg (.cons a1 (.cons a2 (.cons (by cases a3; exact .lstNil) e1)))) es
 refine CallL_F (ref12_Check_ok 0 bs []) (bors_self _ (by simp[dats,LV.dat,lpV_dats])) ?_
 rw[chkR_bufs]
 by_cases g3:bufsE bs=0
 case neg=>simp[g3]; exact (bad (by simp[planB,g3])).symm
 simp[g3]
 have hsz:∀ b∈bs,b.size≤65536:=bufsE_size g3
 refine loop_nx (fun ρ D G N=>∃ i:Nat,D=[]∧N+i=vs.length∧lk ρ 3=.ptr 0 0∧lk ρ 0=.lst (vsC vs) vs.length 3∧lk ρ 7=.i i∧0 < G.length∧G[0]?=some (.cells (plV bs ps w0 w1) 0)∧∀ j,j < i→placeB bs (gv vs j) (gpc ps j)=true) (N:=vs.length)
  ⟨0,by simp[plV,g2]⟩ ?_
 rintro N ρ D G ⟨i,rfl,hN,h3,h0,h7,hl,hG,hpl⟩ Nx hNx
 by_cases g:i < vs.length
 ·have q3:=vs_three (at_gv g)
  have hq:=vs_lt g
  have gp:i < ps.length:=by omega
  have p3:=pc_three (at_gpc gp)
  have hpq:=pc_lt gp
  have hvf:(gv vs i).f=[.i (gv vs i).limbs,.bool (gv vs i).sec,.i (gv vs i).mode]:=rfl
  have hpf:(gpc ps i).f=[.i (gpc ps i).buf,.i (gpc ps i).at_,.i (gpc ps i).size]:=rfl
  have no:placeB bs (gv vs i) (gpc ps i)=false→planE vs bs ps w0 w1=2:=fun h=>bad (by
   have:((List.range vs.length).all fun i=>placeB bs (gv vs i) (gpc ps i))=false:=by
    rw[List.all_eq_false]
    exact⟨i,List.mem_range.2 g,by simp[h]⟩
   simp[planB,this])
  have nx:placeB bs (gv vs i) (gpc ps i)=true→∀ ρ' G',lk ρ' 3=.ptr 0 0→lk ρ' 0=.lst (vsC vs) vs.length 3→lk ρ' 7=.i ((i:Int)+1)→0 < G'.length→G'[0]?=some (.cells (plV bs ps w0 w1) 0)→Nx ρ' [] G':=fun h ρ' G' e3 e0 e7 el eG =>
   hNx _ _ _ ⟨N - 1,by omega,i+1,rfl,by omega,e3,e0,by rw[e7]; simp,el,eG,fun j hj=>by
    by_cases e:j=i
    ·rw[e]; exact h
    ·exact hpl j (by omega)⟩
  generalize gv vs i=v at *
  generalize gpc ps i=x at *
  have p0:∀ y:List LObj,(G++y)[0]?=some _:=fun y=>(old1 hl).trans hG
  have p0e : ∀ (y : LHeap) (h : 0 < (G ++ y).length), (G ++ y)[0]'h = .cells (plV bs ps w0 w1) 0 := fun y h => (List.getElem?_eq_some_iff.1 (p0 y)).2
  simp[h3,h0,h7,g,gp,q3,p3,hq,hpq,hvf,hpf,hG,↓p0,p0e,plV]
  have hL:=ref22_placeMay_ok bs ps w0 w1 x hsz
  rw[plV,Pc.f] at hL
  refine CallL_F hL (bors_self _ (by simp[dats,LV.dat,bfC_dats,pcC_dats])) ?_
  cases hlB:liesB bs x with
  | false=>simp; exact (no (by simp[placeB,hlB])).symm
  | true =>
  obtain⟨n,hn,hnl,s1,s2,s3,s4,s5⟩:=liesB_parts hlB
  by_cases g4:x.size=v.limbs
  case neg=>simp[g4]; exact (no (by simp[placeB,g4])).symm
  have b3:=bf_three (at_gbf hnl)
  have hbq:=bf_lt hnl
  have hbf:(gbf bs n).f=[.i (gbf bs n).size,.i (gbf bs n).kind,.bool (gbf bs n).sec]:=rfl
  have hpB:placeB bs v x=(!(decide ((gbf bs n).kind=1) && !givenB v) && (!(decide ((gbf bs n).kind=2) && givenB v) && (v.sec==(gbf bs n).sec))):=by simp[placeB,hlB,g4,hn]
  rw[hpB] at no nx
  generalize gbf bs n=b at *
  have nx':∀ (h:(!(decide (b.kind=1) && !givenB v) && (!(decide (b.kind=2) && givenB v) && (v.sec==b.sec)))=true) (ρ':LEnv) (x:List LObj),lk ρ' 3=.ptr 0 0→lk ρ' 0=.lst (vsC vs) vs.length 3→lk ρ' 7=.i ((i:Int)+1)→Nx ρ' [] (G++x):=fun h ρ' x e3 e0 e7=>nx h _ _ e3 e0 e7 (by simp; omega) (p0 x)
  by_cases m1:v.mode=1
  ·have hg:givenB v=true:=by simp[givenB,m1]
   by_cases k1:b.kind=1
   ·cases hs:(v.sec==b.sec) with
    | false=>simp[g4,h3,h0,h7,↓p0,plV,hn,hnl,b3,hbq,hbf,m1,m1,k1,eqb,hs]; exact (no (by simp[k1,hg,hs])).symm
    | true =>
     simp[g4,h3,h0,h7,↓p0,plV,hn,hnl,b3,hbq,hbf,m1,m1,k1,eqb,hs]
     exact⟨by omega,nx' (by simp[k1,hg,hs]) _ _ (by simp[h3]) (by simp[h0]) (by simp)⟩
   ·by_cases k2:b.kind=2
    ·simp[g4,h3,h0,h7,↓p0,plV,hn,hnl,b3,hbq,hbf,m1,m1,k1,k2]; exact (no (by simp[k2,hg])).symm
    ·cases hs:(v.sec==b.sec) with
     | false=>simp[g4,h3,h0,h7,↓p0,plV,hn,hnl,b3,hbq,hbf,m1,m1,k1,k2,eqb,hs]; exact (no (by simp[k1,k2,hg,hs])).symm
     | true =>
      simp[g4,h3,h0,h7,↓p0,plV,hn,hnl,b3,hbq,hbf,m1,m1,k1,k2,eqb,hs]
      exact⟨by omega,nx' (by simp[k1,k2,hg,hs]) _ _ (by simp[h3]) (by simp[h0]) (by simp)⟩
  ·by_cases m2:v.mode=2
   ·have hg:givenB v=true:=by simp[givenB,m2]
    by_cases k1:b.kind=1
    ·cases hs:(v.sec==b.sec) with
     | false=>simp[g4,h3,h0,h7,↓p0,plV,hn,hnl,b3,hbq,hbf,m1,m2,k1,eqb,hs]; exact (no (by simp[k1,hg,hs])).symm
     | true =>
      simp[g4,h3,h0,h7,↓p0,plV,hn,hnl,b3,hbq,hbf,m1,m2,k1,eqb,hs]
      exact⟨by omega,nx' (by simp[k1,hg,hs]) _ _ (by simp[h3]) (by simp[h0]) (by simp)⟩
    ·by_cases k2:b.kind=2
     ·simp[g4,h3,h0,h7,↓p0,plV,hn,hnl,b3,hbq,hbf,m1,m2,k1,k2]; exact (no (by simp[k2,hg])).symm
     ·cases hs:(v.sec==b.sec) with
      | false=>simp[g4,h3,h0,h7,↓p0,plV,hn,hnl,b3,hbq,hbf,m1,m2,k1,k2,eqb,hs]; exact (no (by simp[k1,k2,hg,hs])).symm
      | true =>
       simp[g4,h3,h0,h7,↓p0,plV,hn,hnl,b3,hbq,hbf,m1,m2,k1,k2,eqb,hs]
       exact⟨by omega,nx' (by simp[k1,k2,hg,hs]) _ _ (by simp[h3]) (by simp[h0]) (by simp)⟩
   ·have hg:givenB v=false:=by simp[givenB,m1,m2]
    by_cases k1:b.kind=1
    ·simp[g4,h3,h0,h7,↓p0,plV,hn,hnl,b3,hbq,hbf,m1,m2,k1]; exact (no (by simp[k1,hg])).symm
    ·by_cases k2:b.kind=2
     ·cases hs:(v.sec==b.sec) with
      | false=>simp[g4,h3,h0,h7,↓p0,plV,hn,hnl,b3,hbq,hbf,m1,m2,k1,k2,eqb,hs]; exact (no (by simp[k1,k2,hg,hs])).symm
      | true =>
       simp[g4,h3,h0,h7,↓p0,plV,hn,hnl,b3,hbq,hbf,m1,m2,k1,k2,eqb,hs]
       exact⟨by omega,nx' (by simp[k1,k2,hg,hs]) _ _ (by simp[h3]) (by simp[h0]) (by simp)⟩
     ·cases hs:(v.sec==b.sec) with
      | false=>simp[g4,h3,h0,h7,↓p0,plV,hn,hnl,b3,hbq,hbf,m1,m2,k1,k2,eqb,hs]; exact (no (by simp[k1,k2,hg,hs])).symm
      | true =>
       simp[g4,h3,h0,h7,↓p0,plV,hn,hnl,b3,hbq,hbf,m1,m2,k1,k2,eqb,hs]
       exact⟨by omega,nx' (by simp[k1,k2,hg,hs]) _ _ (by simp[h3]) (by simp[h0]) (by simp)⟩
 ·have gi:i=vs.length:=by omega
  subst gi
  simp[h3,h0,h7,hG,plV]
  refine loop_nx (fun ρ D G N=>∃ i:Nat,D=[]∧N+i=2∧lk ρ 3=.ptr 0 0∧lk ρ 12=.i i∧0 < G.length∧G[0]?=some (.cells (plV bs ps w0 w1) 0)∧(0 < i→workB bs false w0=true)∧(1 < i→workB bs true w1=true)) (N:=2)
   ⟨0,rfl,rfl,by simp[h3],by simp,hl,hG,fun q=>absurd q (by omega),fun q=>absurd q (by omega)⟩ ?_
  clear h3 h0 h7 hG hl
  rintro N ρ D G ⟨i,rfl,hN2,h3,h12,hl,hG,hw0,hw1⟩ Nx hNx
  have p0:∀ y:List LObj,(G++y)[0]?=some _:=fun y=>(old1 hl).trans hG
  have hi:i=0∨i=1∨i=2:=by omega
  rcases hi with rfl | rfl | rfl
  ·have no:workB bs false w0=false→planE vs bs ps w0 w1=2:=fun h=>bad (by simp[planB,h])
   have nx:workB bs false w0=true→∀ (ρ':LEnv),lk ρ' 3=.ptr 0 0→lk ρ' 12=.i (0+1)→Nx ρ' [] G:=fun h ρ' e3 e12 =>
    hNx _ _ _ ⟨N - 1,by omega,0+1,rfl,by omega,e3,by rw[e12]; rfl,hl,hG,fun _=>h,fun q=>absurd q (by omega)⟩
   simp[h3,h12,hG,plV]
   have hL:=ref22_placeMay_ok bs ps w0 w1 w0 hsz
   rw[plV,Pc.f] at hL
   refine CallL_F hL (bors_self _ (by simp[dats,LV.dat,bfC_dats,pcC_dats])) ?_
   cases hlB:liesB bs w0 with
   | false=>simp[h3,h12,hG,plV]; exact (no (by simp[workB,hlB])).symm
   | true =>
   obtain⟨n,hn,hnl,s1,s2,s3,s4,s5⟩:=liesB_parts hlB
   have b1:=bf_at1 (at_gbf hnl)
   have b2:=bf_at2 (at_gbf hnl)
   have hbq:=bf_lt hnl
   have hW:workB bs false w0=(!decide ((gbf bs n).kind=1) && ((gbf bs n).sec==false)):=by simp[workB,hlB,hn]
   rw[hW] at no nx
   generalize gbf bs n=b at *
   by_cases k1:b.kind=1
   ·simp[h3,h12,hG,plV,hn,hnl,nthL_at b1,nthL_at b2,k1]; exact (no (by simp[k1])).symm
   cases hs:b.sec with
   | true=>simp[h3,h12,hG,plV,hn,hnl,nthL_at b1,nthL_at b2,k1,hs,eqb]; exact (no (by simp[hs])).symm
   | false =>
    simp[h3,h12,hG,plV,hn,hnl,nthL_at b1,nthL_at b2,k1,hs,eqb]
    exact nx (by simp[k1,hs]) _ (by simp[h3]) (by simp)
  ·have no:workB bs true w1=false→planE vs bs ps w0 w1=2:=fun h=>bad (by simp[planB,h])
   have nx:workB bs true w1=true→∀ (ρ':LEnv),lk ρ' 3=.ptr 0 0→lk ρ' 12=.i (1+1)→Nx ρ' [] G:=fun h ρ' e3 e12 =>
    hNx _ _ _ ⟨N - 1,by omega,1+1,rfl,by omega,e3,by rw[e12]; rfl,hl,hG,fun _=>hw0 (by omega),fun _=>h⟩
   simp[h3,h12,hG,plV]
   have hL:=ref22_placeMay_ok bs ps w0 w1 w1 hsz
   rw[plV,Pc.f] at hL
   refine CallL_F hL (bors_self _ (by simp[dats,LV.dat,bfC_dats,pcC_dats])) ?_
   cases hlB:liesB bs w1 with
   | false=>simp[h3,h12,hG,plV]; exact (no (by simp[workB,hlB])).symm
   | true =>
   obtain⟨n,hn,hnl,s1,s2,s3,s4,s5⟩:=liesB_parts hlB
   have b1:=bf_at1 (at_gbf hnl)
   have b2:=bf_at2 (at_gbf hnl)
   have hbq:=bf_lt hnl
   have hW:workB bs true w1=(!decide ((gbf bs n).kind=1) && ((gbf bs n).sec==true)):=by simp[workB,hlB,hn]
   rw[hW] at no nx
   generalize gbf bs n=b at *
   by_cases k1:b.kind=1
   ·simp[h3,h12,hG,plV,hn,hnl,nthL_at b1,nthL_at b2,k1]; exact (no (by simp[k1])).symm
   cases hs:b.sec with
   | false=>simp[h3,h12,hG,plV,hn,hnl,nthL_at b1,nthL_at b2,k1,hs,eqb]; exact (no (by simp[hs])).symm
   | true =>
    simp[h3,h12,hG,plV,hn,hnl,nthL_at b1,nthL_at b2,k1,hs,eqb]
    exact nx (by simp[k1,hs]) _ (by simp[h3]) (by simp)
  ·simp[h12]
   unfold planE
   rw[if_pos]
   have hb1:1≤bs.length:=by omega
   simp[planB,hvB,hb1,g2,g3,hw0 (by omega),hw1 (by omega)]
   intro j hj
   exact hpl j hj
end Go.Proofs.YtocgdaojgjnfcaaGreat
