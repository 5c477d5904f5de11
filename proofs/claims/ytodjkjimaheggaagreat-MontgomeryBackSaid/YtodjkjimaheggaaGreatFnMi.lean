/- A product through the radix: its code is put. -/
import Derived.Test.YtodjkjimaheggaaGreatFnBw
import Derived.Test.YtodjkjimaheggaaGreatSvG3
import Derived.Test.YtodjkjimaheggaaGreatFnMg
namespace Go.Proofs.YtodjkjimaheggaaGreat
open Go.Sv
set_option linter.unusedSimpArgs false
set_option maxRecDepth 10000
def z2n:LC:=(.seq (.draw [(.m 6 0,[]),(.z 7 (.nilChk (.t 6)),[]),(.f 8 0 7,[]),(.l 9 8,[]),(.m 10 0,[]),(.z 11 (.nilChk (.t 10)),[]),(.f 12 21 11,[]),(.l 13 12,[]),(.m 14 0,[]),(.z 15 (.nilChk (.t 14)),[]),(.f 16 22 15,[]),(.l 17 16,[]),(.m 18 1,[]),(.m 19 2,[]),(.z 20 (.callV (.c (.fn (.func 132) [] [])) [.t 9,.t 13,.t 17,.t 18,.t 19]),[])]) (.seq (.draw [(.m 21 0,[]),(.z 22 (.nilChk (.t 21)),[]),(.f 23 0 22,[]),(.l 24 23,[]),(.m 25 0,[]),(.z 26 (.nilChk (.t 25)),[]),(.f 27 22 26,[]),(.l 28 27,[]),(.m 29 0,[]),(.z 30 (.nilChk (.t 29)),[]),(.f 31 24 30,[]),(.l 32 31,[]),(.m 33 0,[]),(.z 34 (.nilChk (.t 33)),[]),(.f 35 22 34,[]),(.l 36 35,[]),(.m 37 0,[]),(.z 38 (.nilChk (.t 37)),[]),(.f 39 23 38,[]),(.l 40 39,[]),(.m 41 0,[]),(.z 42 (.nilChk (.t 41)),[]),(.f 43 16 42,[]),(.l 44 43,[]),(.z 45 (.callV (.c (.fn (.func 104) [] [])) [.t 24,.c (.i 11),.t 28,.t 32,.t 36,.t 40,.t 44]),[])]) (.seq (.draw [(.m 46 0,[]),(.z 47 (.nilChk (.t 46)),[]),(.f 48 0 47,[]),(.l 49 48,[]),(.m 50 0,[]),(.z 51 (.nilChk (.t 50)),[]),(.f 52 22 51,[]),(.l 53 52,[]),(.m 54 0,[]),(.z 55 (.nilChk (.t 54)),[]),(.f 56 25 55,[]),(.l 57 56,[]),(.m 58 0,[]),(.z 59 (.nilChk (.t 58)),[]),(.f 60 22 59,[]),(.l 61 60,[]),(.m 62 0,[]),(.z 63 (.nilChk (.t 62)),[]),(.f 64 19 63,[]),(.l 65 64,[]),(.m 66 0,[]),(.z 67 (.nilChk (.t 66)),[]),(.f 68 16 67,[]),(.l 69 68,[]),(.z 70 (.callV (.c (.fn (.func 104) [] [])) [.t 49,.c (.i 11),.t 53,.t 57,.t 61,.t 65,.t 69]),[])]) (.seq (.draw [(.m 71 0,[]),(.z 72 (.nilChk (.t 71)),[]),(.f 73 0 72,[]),(.l 74 73,[]),(.m 75 0,[]),(.z 76 (.nilChk (.t 75)),[]),(.f 77 21 76,[]),(.l 78 77,[]),(.m 79 0,[]),(.z 80 (.nilChk (.t 79)),[]),(.f 81 21 80,[]),(.l 82 81,[]),(.m 83 0,[]),(.z 84 (.nilChk (.t 83)),[]),(.f 85 24 84,[]),(.l 86 85,[]),(.z 87 (.callV (.c (.fn (.func 108) [] [])) [.t 74,.c (.i 3),.t 78,.t 82,.t 86]),[])]) (.draw [(.m 88 0,[]),(.z 89 (.nilChk (.t 88)),[]),(.f 90 0 89,[]),(.l 91 90,[]),(.m 92 0,[]),(.z 93 (.nilChk (.t 92)),[]),(.f 94 19 93,[]),(.l 95 94,[]),(.m 96 0,[]),(.z 97 (.nilChk (.t 96)),[]),(.f 98 21 97,[]),(.l 99 98,[]),(.m 100 0,[]),(.z 101 (.nilChk (.t 100)),[]),(.f 102 25 101,[]),(.l 103 102,[]),(.z 104 (.callV (.c (.fn (.func 108) [] [])) [.t 91,.c (.i 3),.t 95,.t 99,.t 103]),[])])))))
theorem r_montgomery_product_sum:z0f Tryz.prog 135=some ⟨105,z2n.r,[]⟩:=by kernel_rfl
theorem k_montgomery_product_sum:z2n.ok=true:=by kernel_rfl
def z2q:LC:=(.seq (.draw [(.m 2 0,[]),(.z 3 (.nilChk (.t 2)),[]),(.f 4 0 3,[]),(.l 5 4,[]),(.m 6 0,[]),(.z 7 (.nilChk (.t 6)),[]),(.f 8 23 7,[]),(.l 9 8,[]),(.m 10 0,[]),(.z 11 (.nilChk (.t 10)),[]),(.f 12 13 11,[]),(.z 13 (.loadN 3 (.t 12)),[]),(.m 14 0,[]),(.z 15 (.nilChk (.t 14)),[]),(.f 16 10 15,[]),(.f 17 2 16,[]),(.l 18 17,[]),(.z 19 (.callV (.c (.fn (.func 70) [] [])) [.t 5,.t 9,.t 13,.c (.i (-1)),.t 18]),[])]) (.draw [(.m 20 0,[]),(.z 21 (.nilChk (.t 20)),[]),(.f 22 0 21,[]),(.l 23 22,[]),(.m 24 0,[]),(.z 25 (.nilChk (.t 24)),[]),(.f 26 23 25,[]),(.l 27 26,[]),(.m 28 0,[]),(.z 29 (.nilChk (.t 28)),[]),(.f 30 24 29,[]),(.l 31 30,[]),(.m 32 0,[]),(.z 33 (.nilChk (.t 32)),[]),(.f 34 23 33,[]),(.l 35 34,[]),(.m 36 0,[]),(.z 37 (.nilChk (.t 36)),[]),(.f 38 19 37,[]),(.l 39 38,[]),(.m 40 0,[]),(.z 41 (.nilChk (.t 40)),[]),(.f 42 16 41,[]),(.l 43 42,[]),(.z 44 (.callV (.c (.fn (.func 104) [] [])) [.t 23,.c (.i 11),.t 27,.t 31,.t 35,.t 39,.t 43]),[])]))
theorem r_montgomery_product_top:z0f Tryz.prog 136=some ⟨45,z2q.r,[]⟩:=by kernel_rfl
theorem k_montgomery_product_top:z2q.ok=true:=by kernel_rfl
def z26:LC:=(.seq (.ops [.z 2 (.box (.t 0))]) (.seq (.draw [(.l 4 2,[]),(.z 5 (.nilChk (.t 4)),[]),(.f 6 0 5,[]),(.l 7 6,[]),(.l 8 2,[]),(.z 9 (.nilChk (.t 8)),[]),(.f 10 18 9,[]),(.l 11 10,[]),(.l 12 2,[]),(.z 13 (.nilChk (.t 12)),[]),(.f 14 7 13,[]),(.z 15 (.loadN 3 (.t 14)),[]),(.m 16 1,[]),(.z 17 (.callV (.c (.fn (.func 70) [] [])) [.t 7,.t 11,.t 15,.t 16,.c (.i 0)]),[])]) (.seq (.draw [(.l 18 2,[]),(.z 19 (.nilChk (.t 18)),[]),(.f 20 0 19,[]),(.l 21 20,[]),(.l 22 2,[]),(.z 23 (.nilChk (.t 22)),[]),(.f 24 19 23,[]),(.l 25 24,[]),(.z 26 (.callV (.c (.fn (.func 69) [] [])) [.t 21,.t 25,.c (.u 0)]),[])]) (.seq (.draw [(.l 27 2,[]),(.z 28 (.nilChk (.t 27)),[]),(.f 29 0 28,[]),(.l 30 29,[]),(.l 31 2,[]),(.z 32 (.nilChk (.t 31)),[]),(.f 33 10 32,[]),(.f 34 2 33,[]),(.l 35 34,[]),(.z 36 (.mkFunc 134 [] [.t 2]),[]),(.z 37 (.callV (.c (.fn (.func 73) [] [])) [.t 30,.t 35,.t 36]),[])]) (.seq (.ops [.l 38 2,.z 39 (.callV (.c (.fn (.func 136) [] [])) [.t 38])]) (.seq (.draw [(.l 40 2,[]),(.z 41 (.nilChk (.t 40)),[]),(.f 42 0 41,[]),(.l 43 42,[]),(.l 44 2,[]),(.z 45 (.nilChk (.t 44)),[]),(.f 46 13 45,[]),(.z 47 (.loadN 3 (.t 46)),[]),(.l 48 2,[]),(.z 49 (.nilChk (.t 48)),[]),(.f 50 10 49,[]),(.f 51 2 50,[]),(.l 52 51,[]),(.l 53 2,[]),(.z 54 (.nilChk (.t 53)),[]),(.f 55 23 54,[]),(.l 56 55,[]),(.z 57 (.callV (.c (.fn (.func 109) [] [])) [.t 43,.t 47,.c (.i (-1)),.t 52,.t 56]),[])]) (.draw [(.l 58 2,[]),(.z 59 (.nilChk (.t 58)),[]),(.f 60 0 59,[]),(.l 61 60,[]),(.l 62 2,[]),(.z 63 (.nilChk (.t 62)),[]),(.f 64 13 63,[]),(.z 65 (.loadN 3 (.t 64)),[]),(.l 66 2,[]),(.z 67 (.nilChk (.t 66)),[]),(.f 68 10 67,[]),(.f 69 2 68,[]),(.l 70 69,[]),(.z 71 (.bin .add true 3 (.t 70) (.c (.i 1))),[]),(.l 72 2,[]),(.z 73 (.nilChk (.t 72)),[]),(.f 74 24 73,[]),(.l 75 74,[]),(.z 76 (.callV (.c (.fn (.func 109) [] [])) [.t 61,.t 65,.c (.i (-1)),.t 71,.t 75]),[])])))))))
theorem r_montgomery_product_times:z0f Tryz.prog 75=some ⟨77,z26.r,[]⟩:=by kernel_rfl
theorem k_montgomery_product_times:z26.ok=true:=by kernel_rfl
def z1s:LC:=(.seq (.draw [(.l 3 1,[]),(.z 4 (.nilChk (.t 3)),[]),(.f 5 0 4,[]),(.l 6 5,[]),(.l 7 1,[]),(.z 8 (.nilChk (.t 7)),[]),(.f 9 20 8,[]),(.l 10 9,[]),(.l 11 1,[]),(.z 12 (.nilChk (.t 11)),[]),(.f 13 4 12,[]),(.z 14 (.loadN 3 (.t 13)),[]),(.m 15 0,[]),(.z 16 (.callV (.c (.fn (.func 70) [] [])) [.t 6,.t 10,.t 14,.t 15,.c (.i 0)]),[])]) (.seq (.draw [(.l 17 1,[]),(.z 18 (.nilChk (.t 17)),[]),(.f 19 0 18,[]),(.l 20 19,[]),(.l 21 1,[]),(.z 22 (.nilChk (.t 21)),[]),(.f 23 23 22,[]),(.l 24 23,[]),(.l 25 1,[]),(.z 26 (.nilChk (.t 25)),[]),(.f 27 13 26,[]),(.z 28 (.loadN 3 (.t 27)),[]),(.m 29 0,[]),(.z 30 (.callV (.c (.fn (.func 70) [] [])) [.t 20,.t 24,.t 28,.t 29,.c (.i 0)]),[])]) (.seq (.draw [(.l 31 1,[]),(.l 32 1,[]),(.z 33 (.nilChk (.t 32)),[]),(.f 34 20 33,[]),(.l 35 34,[]),(.l 36 1,[]),(.z 37 (.nilChk (.t 36)),[]),(.f 38 18 37,[]),(.l 39 38,[]),(.z 40 (.callV (.c (.fn (.func 135) [] [])) [.t 31,.t 35,.t 39]),[])]) (.draw [(.l 41 1,[]),(.z 42 (.nilChk (.t 41)),[]),(.f 43 0 42,[]),(.l 44 43,[]),(.l 45 1,[]),(.z 46 (.nilChk (.t 45)),[]),(.f 47 13 46,[]),(.z 48 (.loadN 3 (.t 47)),[]),(.m 49 0,[]),(.l 50 1,[]),(.z 51 (.nilChk (.t 50)),[]),(.f 52 22 51,[]),(.l 53 52,[]),(.z 54 (.callV (.c (.fn (.func 109) [] [])) [.t 44,.t 48,.t 49,.c (.i 0),.t 53]),[])]))))
theorem r_montgomery_product_times_1:z0f Tryz.prog 134=some ⟨55,z1s.r,[]⟩:=by kernel_rfl
theorem k_montgomery_product_times_1:z1s.ok=true:=by kernel_rfl
def z2e:LC:=(.seq (.ops [.z 1 (.box (.t 0))]) (.seq (.ops [.l 3 1,.z 4 (.nilChk (.t 3)),.f 5 10 4,.f 6 2 5,.l 7 6,.m 2 7]) (.seq (.draw [(.l 8 1,[]),(.z 9 (.nilChk (.t 8)),[]),(.f 10 0 9,[]),(.l 11 10,[]),(.l 12 1,[]),(.z 13 (.nilChk (.t 12)),[]),(.f 14 23 13,[]),(.l 15 14,[]),(.l 16 1,[]),(.z 17 (.nilChk (.t 16)),[]),(.f 18 13 17,[]),(.z 19 (.loadN 3 (.t 18)),[]),(.z 20 (.callV (.c (.fn (.func 70) [] [])) [.t 11,.t 15,.t 19,.c (.i (-1)),.c (.i 0)]),[])]) (.seq (.draw [(.l 21 1,[]),(.z 22 (.nilChk (.t 21)),[]),(.f 23 0 22,[]),(.l 24 23,[]),(.l 25 1,[]),(.z 26 (.nilChk (.t 25)),[]),(.f 27 21 26,[]),(.l 28 27,[]),(.l 29 1,[]),(.z 30 (.nilChk (.t 29)),[]),(.f 31 26 30,[]),(.l 32 31,[]),(.l 33 1,[]),(.z 34 (.nilChk (.t 33)),[]),(.f 35 23 34,[]),(.l 36 35,[]),(.l 37 1,[]),(.z 38 (.nilChk (.t 37)),[]),(.f 39 17 38,[]),(.l 40 39,[]),(.z 41 (.callV (.c (.fn (.func 132) [] [])) [.t 24,.t 28,.t 32,.t 36,.t 40]),[])]) (.seq (.draw [(.l 42 1,[]),(.z 43 (.nilChk (.t 42)),[]),(.f 44 0 43,[]),(.l 45 44,[]),(.l 46 1,[]),(.z 47 (.nilChk (.t 46)),[]),(.f 48 20 47,[]),(.l 49 48,[]),(.l 50 1,[]),(.z 51 (.nilChk (.t 50)),[]),(.f 52 10 51,[]),(.z 53 (.loadN 3 (.t 52)),[]),(.z 54 (.callV (.c (.fn (.func 70) [] [])) [.t 45,.t 49,.t 53,.c (.i (-1)),.c (.i 0)]),[])]) (.seq (.draw [(.l 55 1,[]),(.z 56 (.nilChk (.t 55)),[]),(.f 57 0 56,[]),(.l 58 57,[]),(.l 59 1,[]),(.z 60 (.nilChk (.t 59)),[]),(.f 61 19 60,[]),(.l 62 61,[]),(.z 63 (.callV (.c (.fn (.func 69) [] [])) [.t 58,.t 62,.c (.u 0)]),[])]) (.seq (.draw [(.l 64 1,[]),(.l 65 1,[]),(.z 66 (.nilChk (.t 65)),[]),(.f 67 26 66,[]),(.l 68 67,[]),(.l 69 1,[]),(.z 70 (.nilChk (.t 69)),[]),(.f 71 20 70,[]),(.l 72 71,[]),(.z 73 (.callV (.c (.fn (.func 135) [] [])) [.t 64,.t 68,.t 72]),[])]) (.seq (.ops [.l 74 1,.z 75 (.nilChk (.t 74)),.f 76 0 75,.l 77 76,.m 78 2,.z 79 (.bin .sub true 3 (.t 78) (.c (.i 1))),.z 80 (.mkFunc 137 [] [.t 1]),.z 81 (.callV (.c (.fn (.func 73) [] [])) [.t 77,.t 79,.t 80])]) (.seq (.ops [.l 82 1,.z 83 (.callV (.c (.fn (.func 136) [] [])) [.t 82])]) (.seq (.draw [(.l 84 1,[]),(.z 85 (.nilChk (.t 84)),[]),(.f 86 0 85,[]),(.l 87 86,[]),(.l 88 1,[]),(.z 89 (.nilChk (.t 88)),[]),(.f 90 13 89,[]),(.z 91 (.loadN 3 (.t 90)),[]),(.m 92 2,[]),(.z 93 (.bin .sub true 3 (.t 92) (.c (.i 1))),[]),(.l 94 1,[]),(.z 95 (.nilChk (.t 94)),[]),(.f 96 23 95,[]),(.l 97 96,[]),(.z 98 (.callV (.c (.fn (.func 109) [] [])) [.t 87,.t 91,.c (.i (-1)),.t 93,.t 97]),[])]) (.seq (.draw [(.l 99 1,[]),(.z 100 (.nilChk (.t 99)),[]),(.f 101 0 100,[]),(.l 102 101,[]),(.l 103 1,[]),(.z 104 (.nilChk (.t 103)),[]),(.f 105 23 104,[]),(.l 106 105,[]),(.l 107 1,[]),(.z 108 (.nilChk (.t 107)),[]),(.f 109 13 108,[]),(.z 110 (.loadN 3 (.t 109)),[]),(.m 111 2,[]),(.z 112 (.bin .add true 3 (.t 111) (.c (.i 1))),[]),(.z 113 (.callV (.c (.fn (.func 70) [] [])) [.t 102,.t 106,.t 110,.c (.i (-1)),.t 112]),[])]) (.seq (.draw [(.l 114 1,[]),(.z 115 (.nilChk (.t 114)),[]),(.f 116 0 115,[]),(.l 117 116,[]),(.l 118 1,[]),(.z 119 (.nilChk (.t 118)),[]),(.f 120 23 119,[]),(.l 121 120,[]),(.l 122 1,[]),(.z 123 (.nilChk (.t 122)),[]),(.f 124 23 123,[]),(.l 125 124,[]),(.l 126 1,[]),(.z 127 (.nilChk (.t 126)),[]),(.f 128 24 127,[]),(.l 129 128,[]),(.z 130 (.callV (.c (.fn (.func 108) [] [])) [.t 117,.c (.i 3),.t 121,.t 125,.t 129]),[])]) (.draw [(.l 131 1,[]),(.z 132 (.nilChk (.t 131)),[]),(.f 133 0 132,[]),(.l 134 133,[]),(.l 135 1,[]),(.z 136 (.nilChk (.t 135)),[]),(.f 137 13 136,[]),(.z 138 (.loadN 3 (.t 137)),[]),(.m 139 2,[]),(.l 140 1,[]),(.z 141 (.nilChk (.t 140)),[]),(.f 142 23 141,[]),(.l 143 142,[]),(.z 144 (.callV (.c (.fn (.func 109) [] [])) [.t 134,.t 138,.c (.i (-1)),.t 139,.t 143]),[])])))))))))))))
theorem r_montgomery_product_down:z0f Tryz.prog 76=some ⟨145,z2e.r,[]⟩:=by kernel_rfl
theorem k_montgomery_product_down:z2e.ok=true:=by kernel_rfl
def z22:LC:=(.seq (.draw [(.l 3 1,[]),(.z 4 (.nilChk (.t 3)),[]),(.f 5 0 4,[]),(.l 6 5,[]),(.l 7 1,[]),(.z 8 (.nilChk (.t 7)),[]),(.f 9 20 8,[]),(.l 10 9,[]),(.l 11 1,[]),(.z 12 (.nilChk (.t 11)),[]),(.f 13 10 12,[]),(.z 14 (.loadN 3 (.t 13)),[]),(.m 15 0,[]),(.z 16 (.callV (.c (.fn (.func 70) [] [])) [.t 6,.t 10,.t 14,.t 15,.c (.i 1)]),[])]) (.seq (.draw [(.l 17 1,[]),(.z 18 (.nilChk (.t 17)),[]),(.f 19 0 18,[]),(.l 20 19,[]),(.l 21 1,[]),(.z 22 (.nilChk (.t 21)),[]),(.f 23 23 22,[]),(.l 24 23,[]),(.l 25 1,[]),(.z 26 (.nilChk (.t 25)),[]),(.f 27 13 26,[]),(.z 28 (.loadN 3 (.t 27)),[]),(.m 29 0,[]),(.z 30 (.callV (.c (.fn (.func 70) [] [])) [.t 20,.t 24,.t 28,.t 29,.c (.i 1)]),[])]) (.seq (.draw [(.l 31 1,[]),(.l 32 1,[]),(.z 33 (.nilChk (.t 32)),[]),(.f 34 26 33,[]),(.l 35 34,[]),(.l 36 1,[]),(.z 37 (.nilChk (.t 36)),[]),(.f 38 20 37,[]),(.l 39 38,[]),(.z 40 (.callV (.c (.fn (.func 135) [] [])) [.t 31,.t 35,.t 39]),[])]) (.draw [(.l 41 1,[]),(.z 42 (.nilChk (.t 41)),[]),(.f 43 0 42,[]),(.l 44 43,[]),(.l 45 1,[]),(.z 46 (.nilChk (.t 45)),[]),(.f 47 13 46,[]),(.z 48 (.loadN 3 (.t 47)),[]),(.m 49 0,[]),(.l 50 1,[]),(.z 51 (.nilChk (.t 50)),[]),(.f 52 22 51,[]),(.l 53 52,[]),(.z 54 (.callV (.c (.fn (.func 109) [] [])) [.t 44,.t 48,.t 49,.c (.i 0),.t 53]),[])]))))
theorem r_montgomery_product_down_1:z0f Tryz.prog 137=some ⟨55,z22.r,[]⟩:=by kernel_rfl
theorem k_montgomery_product_down_1:z22.ok=true:=by kernel_rfl
def z2f:LC:=(.seq (.ops [.z 2 (.box (.t 0)),.z 3 (.box (.t 1))]) (.seq (.draw [(.l 4 2,[]),(.z 5 (.nilChk (.t 4)),[]),(.f 6 0 5,[]),(.l 7 6,[]),(.l 8 2,[]),(.z 9 (.nilChk (.t 8)),[]),(.f 10 24 9,[]),(.l 11 10,[]),(.z 12 (.callV (.c (.fn (.func 69) [] [])) [.t 7,.t 11,.c (.u 0)]),[])]) (.draw [(.l 13 2,[]),(.z 14 (.nilChk (.t 13)),[]),(.f 15 0 14,[]),(.l 16 15,[]),(.l 17 2,[]),(.z 18 (.nilChk (.t 17)),[]),(.f 19 10 18,[]),(.f 20 2 19,[]),(.l 21 20,[]),(.z 22 (.mkFunc 180 [] [.t 2,.t 3]),[]),(.z 23 (.callV (.c (.fn (.func 73) [] [])) [.t 16,.t 21,.t 22]),[])])))
theorem r_montgomery_product_less:z0f Tryz.prog 138=some ⟨24,z2f.r,[]⟩:=by kernel_rfl
theorem k_montgomery_product_less:z2f.ok=true:=by kernel_rfl
def z21:LC:=(.seq (.draw [(.l 4 1,[]),(.z 5 (.nilChk (.t 4)),[]),(.f 6 0 5,[]),(.l 7 6,[]),(.l 8 1,[]),(.z 9 (.nilChk (.t 8)),[]),(.f 10 23 9,[]),(.l 11 10,[]),(.l 12 1,[]),(.z 13 (.nilChk (.t 12)),[]),(.f 14 13 13,[]),(.z 15 (.loadN 3 (.t 14)),[]),(.m 16 0,[]),(.z 17 (.callV (.c (.fn (.func 70) [] [])) [.t 7,.t 11,.t 15,.t 16,.c (.i 0)]),[])]) (.seq (.draw [(.l 18 1,[]),(.z 19 (.nilChk (.t 18)),[]),(.f 20 0 19,[]),(.l 21 20,[]),(.l 22 1,[]),(.z 23 (.nilChk (.t 22)),[]),(.f 24 20 23,[]),(.l 25 24,[]),(.l 26 1,[]),(.z 27 (.nilChk (.t 26)),[]),(.f 28 10 27,[]),(.z 29 (.loadN 3 (.t 28)),[]),(.m 30 0,[]),(.z 31 (.callV (.c (.fn (.func 70) [] [])) [.t 21,.t 25,.t 29,.t 30,.c (.i 0)]),[])]) (.seq (.draw [(.l 32 1,[]),(.z 33 (.nilChk (.t 32)),[]),(.f 34 0 33,[]),(.l 35 34,[]),(.l 36 1,[]),(.z 37 (.nilChk (.t 36)),[]),(.f 38 22 37,[]),(.l 39 38,[]),(.l 40 1,[]),(.z 41 (.nilChk (.t 40)),[]),(.f 42 24 41,[]),(.l 43 42,[]),(.l 44 1,[]),(.z 45 (.nilChk (.t 44)),[]),(.f 46 23 45,[]),(.l 47 46,[]),(.l 48 1,[]),(.z 49 (.nilChk (.t 48)),[]),(.f 50 20 49,[]),(.l 51 50,[]),(.l 52 1,[]),(.z 53 (.nilChk (.t 52)),[]),(.f 54 24 53,[]),(.l 55 54,[]),(.z 56 (.callV (.c (.fn (.func 104) [] [])) [.t 35,.c (.i 12),.t 39,.t 43,.t 47,.t 51,.t 55]),[])]) (.ops [.l 57 2,.m 58 0,.z 59 (.callV (.t 57) [.t 58])]))))
theorem r_montgomery_product_less_1:z0f Tryz.prog 180=some ⟨60,z21.r,[]⟩:=by kernel_rfl
theorem k_montgomery_product_less_1:z21.ok=true:=by kernel_rfl
def z2i:LC:=(.seq (.ops [.z 1 (.box (.t 0))]) (.seq (.ops [.l 2 1,.z 3 (.callV (.c (.fn (.func 138) [] [])) [.t 2,(.c (.fn (.func 139) [] []))])]) (.seq (.draw [(.l 4 1,[]),(.z 5 (.nilChk (.t 4)),[]),(.f 6 0 5,[]),(.l 7 6,[]),(.l 8 1,[]),(.z 9 (.nilChk (.t 8)),[]),(.f 10 23 9,[]),(.l 11 10,[]),(.l 12 1,[]),(.z 13 (.nilChk (.t 12)),[]),(.f 14 13 13,[]),(.z 15 (.loadN 3 (.t 14)),[]),(.l 16 1,[]),(.z 17 (.nilChk (.t 16)),[]),(.f 18 10 17,[]),(.f 19 2 18,[]),(.l 20 19,[]),(.z 21 (.callV (.c (.fn (.func 70) [] [])) [.t 7,.t 11,.t 15,.c (.i (-1)),.t 20]),[])]) (.seq (.draw [(.l 22 1,[]),(.z 23 (.nilChk (.t 22)),[]),(.f 24 0 23,[]),(.l 25 24,[]),(.l 26 1,[]),(.z 27 (.nilChk (.t 26)),[]),(.f 28 22 27,[]),(.l 29 28,[]),(.l 30 1,[]),(.z 31 (.nilChk (.t 30)),[]),(.f 32 26 31,[]),(.l 33 32,[]),(.l 34 1,[]),(.z 35 (.nilChk (.t 34)),[]),(.f 36 23 35,[]),(.l 37 36,[]),(.l 38 1,[]),(.z 39 (.nilChk (.t 38)),[]),(.f 40 16 39,[]),(.l 41 40,[]),(.l 42 1,[]),(.z 43 (.nilChk (.t 42)),[]),(.f 44 24 43,[]),(.l 45 44,[]),(.z 46 (.callV (.c (.fn (.func 104) [] [])) [.t 25,.c (.i 12),.t 29,.t 33,.t 37,.t 41,.t 45]),[])]) (.ops [.l 47 1,.z 48 (.mkFunc 140 [] [.t 1]),.z 49 (.callV (.c (.fn (.func 138) [] [])) [.t 47,.t 48])])))))
theorem r_montgomery_product_last:z0f Tryz.prog 77=some ⟨50,z2i.r,[]⟩:=by kernel_rfl
theorem k_montgomery_product_last:z2i.ok=true:=by kernel_rfl
def z20:LC:=.skip
theorem r_montgomery_product_last_1:z0f Tryz.prog 139=some ⟨2,z20.r,[]⟩:=by kernel_rfl
theorem k_montgomery_product_last_1:z20.ok=true:=by kernel_rfl
def z1w:LC:=(.seq (.draw [(.l 3 1,[]),(.z 4 (.nilChk (.t 3)),[]),(.f 5 0 4,[]),(.l 6 5,[]),(.l 7 1,[]),(.z 8 (.nilChk (.t 7)),[]),(.f 9 22 8,[]),(.l 10 9,[]),(.l 11 1,[]),(.z 12 (.nilChk (.t 11)),[]),(.f 13 26 12,[]),(.l 14 13,[]),(.l 15 1,[]),(.z 16 (.nilChk (.t 15)),[]),(.f 17 23 16,[]),(.l 18 17,[]),(.l 19 1,[]),(.z 20 (.nilChk (.t 19)),[]),(.f 21 22 20,[]),(.l 22 21,[]),(.z 23 (.callV (.c (.fn (.func 113) [] [])) [.t 6,.t 10,.t 14,.t 18,.t 22]),[])]) (.draw [(.l 24 1,[]),(.z 25 (.nilChk (.t 24)),[]),(.f 26 0 25,[]),(.l 27 26,[]),(.l 28 1,[]),(.z 29 (.nilChk (.t 28)),[]),(.f 30 1 29,[]),(.z 31 (.loadN 3 (.t 30)),[]),(.m 32 0,[]),(.l 33 1,[]),(.z 34 (.nilChk (.t 33)),[]),(.f 35 22 34,[]),(.l 36 35,[]),(.z 37 (.callV (.c (.fn (.func 109) [] [])) [.t 27,.t 31,.t 32,.c (.i 0),.t 36]),[])]))
theorem r_montgomery_product_last_2:z0f Tryz.prog 140=some ⟨38,z1w.r,[]⟩:=by kernel_rfl
theorem k_montgomery_product_last_2:z1w.ok=true:=by kernel_rfl
def z1j:LC:=(.seq (.ops [.z 7 (.box (.t 0)),.z 8 (.box (.t 1)),.z 9 (.box (.t 2)),.z 10 (.box (.t 3)),.z 11 (.box (.t 4)),.z 14 (.move (.c .nilSl))]) (.seq (.ops [.f 19 2 10,.l 20 19,.m 15 20]) (.seq (.seq (.draw [(.m 21 15,[]),(.z 22 (.bin .lss true 3 (.t 21) (.c (.i 1))),[]),(.m 23 22,[]),(⟨some 24,(some (23,false)),.fieldAddr 2 (.t 7)⟩,[]),(⟨some 25,(some (23,false)),.load1 (.t 24)⟩,[]),(⟨some 26,(some (23,false)),.move (.t 15)⟩,[]),(⟨some 27,(some (23,false)),.bin .neq false 3 (.t 25) (.t 26)⟩,[]),(.z 28 (.pick (.t 23) (.c (.bool true)) (.t 27)),[]),(.m 29 28,[]),(⟨some 30,(some (29,false)),.fieldAddr 2 (.t 8)⟩,[]),(⟨some 31,(some (29,false)),.load1 (.t 30)⟩,[]),(⟨some 32,(some (29,false)),.move (.t 15)⟩,[]),(⟨some 33,(some (29,false)),.bin .neq false 3 (.t 31) (.t 32)⟩,[]),(.z 34 (.pick (.t 29) (.c (.bool true)) (.t 33)),[]),(.m 35 34,[]),(⟨some 36,(some (35,false)),.fieldAddr 2 (.t 9)⟩,[]),(⟨some 37,(some (35,false)),.load1 (.t 36)⟩,[]),(⟨some 38,(some (35,false)),.move (.t 15)⟩,[]),(⟨some 39,(some (35,false)),.bin .neq false 3 (.t 37) (.t 38)⟩,[]),(.z 40 (.pick (.t 35) (.c (.bool true)) (.t 39)),[]),(.m 41 40,[]),(⟨some 42,(some (41,false)),.fieldAddr 2 (.t 11)⟩,[]),(⟨some 43,(some (41,false)),.load1 (.t 42)⟩,[]),(⟨some 44,(some (41,false)),.move (.t 15)⟩,[]),(⟨some 45,(some (41,false)),.callV (.c (.fn (.func 21) [] [])) [.t 44]⟩,[(⟨some 43,(some (41,false)),.load1 (.t 42)⟩,false)]),(⟨some 46,(some (41,false)),.bin .lss false 3 (.t 43) (.t 45)⟩,[]),(.z 47 (.pick (.t 41) (.c (.bool true)) (.t 46)),[]),(.m 48 47,[]),(⟨some 49,(some (48,false)),.move (.t 5)⟩,[]),(⟨some 50,(some (48,false)),.move (.t 6)⟩,[]),(⟨some 51,(some (48,false)),.callV (.c (.fn (.func 67) [] [])) [.t 49,.t 50]⟩,[]),(⟨some 52,(some (48,false)),.un .not (.t 51)⟩,[]),(.z 53 (.pick (.t 48) (.c (.bool true)) (.t 52)),[])]) (.cond (.t 53) (.seq (.ops [.z 14 (.move (.c .nilSl))]) .ret) .skip)) (.seq (.draw [(.m 54 5,[]),(.z 55 (.build [.nilSl,(.i 0)] [(1,1,.t 54)]),[]),(.z 56 (.box (.t 55)),[]),(.z 57 (.loadN 3 (.t 7)),[]),(.z 58 (.loadN 3 (.t 8)),[]),(.z 59 (.loadN 3 (.t 9)),[]),(.z 60 (.loadN 3 (.t 10)),[]),(.z 61 (.loadN 3 (.t 11)),[]),(.m 62 15,[]),(.z 16 (.alloc [.nilPtr]),[(.z 61 (.loadN 3 (.t 11)),false),(.z 60 (.loadN 3 (.t 10)),false),(.z 59 (.loadN 3 (.t 9)),false),(.z 58 (.loadN 3 (.t 8)),false),(.z 57 (.loadN 3 (.t 7)),false),(.z 56 (.box (.t 55)),true)]),(.z 63 (.callV (.c (.fn (.func 21) [] [])) [.t 62]),[(.z 16 (.alloc [.nilPtr]),true),(.z 61 (.loadN 3 (.t 11)),false),(.z 60 (.loadN 3 (.t 10)),false),(.z 59 (.loadN 3 (.t 9)),false),(.z 58 (.loadN 3 (.t 8)),false),(.z 57 (.loadN 3 (.t 7)),false),(.z 56 (.box (.t 55)),true)]),(.z 64 (.callV (.c (.fn (.func 68) [] [])) [.t 61,.c (.i 0),.t 63]),[(.z 16 (.alloc [.nilPtr]),true),(.z 60 (.loadN 3 (.t 10)),false),(.z 59 (.loadN 3 (.t 9)),false),(.z 58 (.loadN 3 (.t 8)),false),(.z 57 (.loadN 3 (.t 7)),false),(.z 56 (.box (.t 55)),true)]),(.z 65 (.build [.nilPtr,(.i 0),(.i 0),(.i 0),(.i 0),(.i 0),(.i 0),(.i 0),(.i 0),(.i 0),(.i 0),(.i 0),(.i 0),(.i 0),(.i 0),(.i 0),(.i 0),(.i 0),(.i 0),(.i 0),(.i 0),(.i 0),(.i 0),(.i 0),(.i 0),(.i 0),(.i 0)] [(0,1,.t 56),(1,3,.t 57),(4,3,.t 58),(7,3,.t 59),(10,3,.t 60),(13,3,.t 64)]),[]),(.z 66 (.box (.t 65)),[(.z 16 (.alloc [.nilPtr]),true),(.z 60 (.loadN 3 (.t 10)),false),(.z 59 (.loadN 3 (.t 9)),false),(.z 58 (.loadN 3 (.t 8)),false),(.z 57 (.loadN 3 (.t 7)),false),(.z 56 (.box (.t 55)),true)]),(⟨none,none,.store 1 (.t 16) (.t 66)⟩,[])]) (.seq (.seq (.draw [(.l 67 16,[]),(.z 68 (.nilChk (.t 67)),[]),(.f 69 16 68,[]),(.l 70 16,[]),(.z 71 (.nilChk (.t 70)),[]),(.f 72 17 71,[]),(.l 73 16,[]),(.z 74 (.nilChk (.t 73)),[]),(.f 75 18 74,[]),(.l 76 16,[]),(.z 77 (.nilChk (.t 76)),[]),(.f 78 19 77,[]),(.l 79 16,[]),(.z 80 (.nilChk (.t 79)),[]),(.f 81 20 80,[]),(.l 82 16,[]),(.z 83 (.nilChk (.t 82)),[]),(.f 84 21 83,[]),(.l 85 16,[]),(.z 86 (.nilChk (.t 85)),[]),(.f 87 22 86,[]),(.l 88 16,[]),(.z 89 (.nilChk (.t 88)),[]),(.f 90 23 89,[]),(.l 91 16,[]),(.z 92 (.nilChk (.t 91)),[]),(.f 93 24 92,[]),(.l 94 16,[]),(.z 95 (.nilChk (.t 94)),[]),(.f 96 25 95,[]),(.l 97 16,[]),(.z 98 (.nilChk (.t 97)),[]),(.f 99 26 98,[]),(.z 100 (.buildSl 1 11 [.nilPtr,.nilPtr,.nilPtr,.nilPtr,.nilPtr,.nilPtr,.nilPtr,.nilPtr,.nilPtr,.nilPtr,.nilPtr] [(0,1,.t 69),(1,1,.t 72),(2,1,.t 75),(3,1,.t 78),(4,1,.t 81),(5,1,.t 84),(6,1,.t 87),(7,1,.t 90),(8,1,.t 93),(9,1,.t 96),(10,1,.t 99)]),[(.l 97 16,false),(.l 94 16,false),(.l 91 16,false),(.l 88 16,false),(.l 85 16,false),(.l 82 16,false),(.l 79 16,false),(.l 76 16,false),(.l 73 16,false),(.l 70 16,false),(.l 67 16,false)]),(.z 101 (.lenSl (.t 100)),[]),(.z 102 (.move (.c (.i 0))),[])]) (.block 0 (.loop (.seq (.ops [.z 103 (.bin .lss false 3 (.t 102) (.t 101))]) (.seq (.cond (.t 103) .skip (.exit 0)) (.seq (.block 1 (.seq (.ops [.m 104 102,.z 105 (.ixAddr 1 (.t 100) (.t 102)),.l 106 105,.m 17 104,.m 18 106]) (.ops [.m 107 18,.m 108 6,.m 109 17,.z 110 (.bin .add false 3 (.t 108) (.t 109)),.z 111 (.nilChk (.t 107)),⟨none,none,.store 1 (.t 111) (.t 110)⟩]))) (.ops [.z 112 (.bin .add true 3 (.t 102) (.c (.i 1))),.m 102 112]))))))) (.seq (.draw [(.l 113 16,[]),(.z 114 (.nilChk (.t 113)),[]),(.f 115 0 114,[]),(.l 116 115,[]),(.l 117 16,[]),(.z 118 (.nilChk (.t 117)),[]),(.f 119 16 118,[]),(.l 120 119,[]),(.z 121 (.callV (.c (.fn (.func 69) [] [])) [.t 116,.t 120,.c (.u 0)]),[])]) (.seq (.draw [(.l 122 16,[]),(.z 123 (.nilChk (.t 122)),[]),(.f 124 0 123,[]),(.l 125 124,[]),(.l 126 16,[]),(.z 127 (.nilChk (.t 126)),[]),(.f 128 26 127,[]),(.l 129 128,[]),(.z 130 (.loadN 3 (.t 10)),[]),(.z 131 (.callV (.c (.fn (.func 70) [] [])) [.t 125,.t 129,.t 130,.c (.i (-1)),.c (.i 0)]),[])]) (.seq (.draw [(.l 132 16,[]),(.z 133 (.nilChk (.t 132)),[]),(.f 134 0 133,[]),(.l 135 134,[]),(.l 136 16,[]),(.z 137 (.nilChk (.t 136)),[]),(.f 138 26 137,[]),(.l 139 138,[]),(.l 140 16,[]),(.z 141 (.nilChk (.t 140)),[]),(.f 142 17 141,[]),(.l 143 142,[]),(.z 144 (.callV (.c (.fn (.func 71) [] [])) [.t 135,.t 139,.t 143]),[])]) (.seq (.draw [(.l 145 16,[]),(.z 146 (.nilChk (.t 145)),[]),(.f 147 0 146,[]),(.l 148 147,[]),(.l 149 16,[]),(.z 150 (.nilChk (.t 149)),[]),(.f 151 13 150,[]),(.z 152 (.loadN 3 (.t 151)),[]),(.l 153 16,[]),(.z 154 (.nilChk (.t 153)),[]),(.f 155 16 154,[]),(.l 156 155,[]),(.z 157 (.callV (.c (.fn (.func 72) [] [])) [.t 148,.t 152,.t 156]),[])]) (.seq (.ops [.l 158 16,.z 159 (.nilChk (.t 158)),.f 160 0 159,.l 161 160,.m 162 15,.z 163 (.mkFunc 74 [] [.t 16]),.z 164 (.callV (.c (.fn (.func 73) [] [])) [.t 161,.t 162,.t 163])]) (.seq (.ops [.l 165 16,.z 166 (.callV (.c (.fn (.func 77) [] [])) [.t 165])]) (.seq (.ops [.l 167 16,.z 168 (.nilChk (.t 167)),.f 169 0 168,.l 170 169,.z 171 (.nilChk (.t 170)),.f 172 0 171,.l 173 172,.m 14 173]) .ret))))))))))))
theorem r_montgomery_Into:z0f Tryz.prog 23=some ⟨174,z1j.r,[.tmp 14]⟩:=by kernel_rfl
theorem k_montgomery_Into:z1j.ok=true:=by kernel_rfl
def z4e:LC:=(.seq (.ops [.l 3 1,.m 4 0,.z 5 (.callV (.c (.fn (.func 75) [] [])) [.t 3,.t 4])]) (.ops [.l 6 1,.z 7 (.callV (.c (.fn (.func 76) [] [])) [.t 6])]))
theorem r_montgomery_Into_1:z0f Tryz.prog 74=some ⟨8,z4e.r,[]⟩:=by kernel_rfl
theorem k_montgomery_Into_1:z4e.ok=true:=by kernel_rfl
def z3w:LC:=(.seq (.ops [.z 4 (.move (.c (.bool false)))]) (.seq (.ops [.m 5 0,.z 6 (.bin .geq true 3 (.t 5) (.c (.i 0))),.m 7 6,⟨some 8,(some (7,true)),.move (.t 0)⟩,⟨some 9,(some (7,true)),.bin .leq true 3 (.t 8) (.c (.i 6))⟩,.z 10 (.pick (.t 7) (.t 9) (.c (.bool false))),.m 11 10,⟨some 12,(some (11,true)),.move (.t 1)⟩,⟨some 13,(some (11,true)),.bin .geq true 3 (.t 12) (.c (.i 16))⟩,.z 14 (.pick (.t 11) (.t 13) (.c (.bool false))),.m 15 14,⟨some 16,(some (15,true)),.move (.t 1)⟩,⟨some 17,(some (15,true)),.bin .leq true 3 (.t 16) (.c (.i 50))⟩,.z 18 (.pick (.t 15) (.t 17) (.c (.bool false))),.m 4 18]) .ret))
theorem r_montgomery_Allowed:z0f Tryz.prog 67=some ⟨19,z3w.r,[.tmp 4]⟩:=by kernel_rfl
theorem k_montgomery_Allowed:z3w.ok=true:=by kernel_rfl
theorem zcr {G:z03} {K:LV→z03→Prop} {e:Nat} {ops:List Lo} {deep times:Int} {f:Nat} {fst cap:List LV} {B:Fr Lo} (hd:0≤deep∧deep≤100) (h:EmH G e ops deep) (hl:ops.length≤900000) (hB:B.flat.length≤50000)
  (hb:∀ (G1:z03) (ops1:List Lo) (K':LV→z03→Prop),EmH G1 e ops1 (deep+1)→Kp e G G1→ops1.length≤900001→(∀ G2,EmH G2 e (ops1++B.flat) (deep+1)→Kp e G1 G2→K' (.tup []) G2)→z0k Tryz.prog (.fn f) (fst++.i deep::cap) G1 K')
  (k:∀ G',EmH G' e (ops++(lpT deep times B).flat) deep→Kp e G G'→K (.tup []) G'):z0k Tryz.prog (.fn 73) [.ptr e 0,.i times,.fn (.func f) fst cap] G K:=by
 refine zpe hd h (by omega) (fun hlt=>k G (by rw[z43,if_pos hlt,List.append_nil]; exact h) (Kp.refl _ _)) fun hge G1 h1 k1=>hb G1 _ _ h1 k1 (by simp; omega) fun G2 h2 k2=>⟨_,by simp; omega,h2,fun G3 h3 k3=>k G3 ?_ (k1.trans (k2.trans k3))⟩
 rw[z43,if_neg (by omega)]
 simpa using h3
section put
variable {G : z03} {K : LV → z03 → Prop} {e P st : Nat} {ops : List Lo} {deep R : Int} {d a b n t : Pc}
theorem zoi {x y:Int} (hP:G[P]?=some (.cells (prS e d a b n t R) st)) (hPe:P≠e) (h:EmH G e ops deep) (hl:ops.length≤950000) (k:∀ G',EmH G' e (ops++sumL R x y) deep→Kp e G G'→K (.tup []) G'):z0k Tryz.prog (.fn 135) [.ptr P 0,.i x,.i y] G K:=by
 refine z01 r_montgomery_product_sum k_montgomery_product_sum (by simp) ?_
 unfold prS at hP
 simp[z2n,hP]
 refine zg6 h (by omega) fun G1 h1 k1=>?_
 have p1:=k1.cells hPe hP
 simp[p1]
 refine za1 h1 (by simp; omega) fun G2 h2 k2=>?_
 have p2:=k2.cells hPe p1
 simp[p2]
 refine za1 h2 (by simp; omega) fun G3 h3 k3=>?_
 have p3:=k3.cells hPe p2
 simp[p3]
 refine zds h3 (by simp; omega) fun G4 h4 k4=>?_
 have p4:=k4.cells hPe p3
 simp[p4]
 refine zds h4 (by simp; omega) fun G5 h5 k5=>?_
 simp
 refine k G5 (by simpa [sumL] using h5) (k1.trans (k2.trans (k3.trans (k4.trans k5))))
theorem ztg (ht:-1000000≤t.at_∧t.at_≤1000000) (hn:0≤n.size∧n.size≤1000000) (hP:G[P]?=some (.cells (prS e d a b n t R) st)) (hPe:P≠e) (h:EmH G e ops deep) (hl:ops.length≤900000) (k:∀ G',EmH G' e (ops++topL t n.size R) deep→Kp e G G'→K (.tup []) G'):z0k Tryz.prog (.fn 136) [.ptr P 0] G K:=by
 refine z01 r_montgomery_product_top k_montgomery_product_top (by simp) ?_
 unfold prS at hP
 simp[z2q,hP]
 refine z3q (p:=t) (by omega) h (by omega) fun G1 h1 k1=>?_
 have p1:=k1.cells hPe hP
 simp[p1]
 refine za1 h1 (by simp; omega) fun G2 h2 k2=>?_
 simp
 refine k G2 (by simpa [topL] using h2) (k1.trans k2)
theorem zr6 {z sz:Nat} {j:Int} (ha:-1000000≤a.at_∧a.at_≤1000000) (ht:-1000000≤t.at_∧t.at_≤1000000) (hz:G[z]?=some (.cells [.ptr P 0] sz)) (hze:z≠e) (hP:G[P]?=some (.cells (prS e d a b n t R) st)) (hPe:P≠e) (h:EmH G e ops deep) (hl:ops.length≤900001) (k:∀ G',EmH G' e (ops++z4t a t R j) deep→Kp e G G'→K (.tup []) G'):z0k Tryz.prog (.fn 134) [.i j,.ptr z 0] G K:=by
 refine z01 r_montgomery_product_times_1 k_montgomery_product_times_1 (by simp) ?_
 have hQ:=hP
 unfold prS at hP
 simp[z1s,hz,hP]
 refine z3q (p:=a) (by omega) h (by omega) fun G1 h1 k1=>?_
 have z1:=k1.cells hze hz
 have q1:=k1.cells hPe hQ
 have p1:=k1.cells hPe hP
 simp[z1,p1]
 refine z3q (p:=t) (by omega) h1 (by simp; omega) fun G2 h2 k2=>?_
 have z2:=k2.cells hze z1
 have q2:=k2.cells hPe q1
 have p2:=k2.cells hPe p1
 simp[z2,p2]
 refine zoi q2 hPe h2 (by simp; omega) fun G3 h3 k3=>?_
 have z3:=k3.cells hze z2
 have p3:=k3.cells hPe p2
 simp[z3,p3]
 refine z63 (p:=t) (by omega) h3 (by simp[sumL]; omega) fun G4 h4 k4=>?_
 simp
 refine k G4 (by simpa [z4t] using h4) (k1.trans (k2.trans (k3.trans k4)))
theorem zvm {z sz:Nat} {j:Int} (hn:-1000000≤n.at_∧n.at_≤1000000) (ht:-1000000≤t.at_∧t.at_≤1000000) (hz:G[z]?=some (.cells [.ptr P 0] sz)) (hze:z≠e) (hP:G[P]?=some (.cells (prS e d a b n t R) st)) (hPe:P≠e) (h:EmH G e ops deep) (hl:ops.length≤900001) (k:∀ G',EmH G' e (ops++z9y n t R j) deep→Kp e G G'→K (.tup []) G'):z0k Tryz.prog (.fn 137) [.i j,.ptr z 0] G K:=by
 refine z01 r_montgomery_product_down_1 k_montgomery_product_down_1 (by simp) ?_
 have hQ:=hP
 unfold prS at hP
 simp[z22,hz,hP]
 refine z3q (p:=n) (by omega) h (by omega) fun G1 h1 k1=>?_
 have z1:=k1.cells hze hz
 have q1:=k1.cells hPe hQ
 have p1:=k1.cells hPe hP
 simp[z1,p1]
 refine z3q (p:=t) (by omega) h1 (by simp; omega) fun G2 h2 k2=>?_
 have z2:=k2.cells hze z1
 have q2:=k2.cells hPe q1
 have p2:=k2.cells hPe p1
 simp[z2,p2]
 refine zoi q2 hPe h2 (by simp; omega) fun G3 h3 k3=>?_
 have z3:=k3.cells hze z2
 have p3:=k3.cells hPe p2
 simp[z3,p3]
 refine z63 (p:=t) (by omega) h3 (by simp[sumL]; omega) fun G4 h4 k4=>?_
 simp
 refine k G4 (by simpa [z9y] using h4) (k1.trans (k2.trans (k3.trans k4)))
theorem ztn {i:Int} (hd:0≤deep∧deep≤50) (ha:-1000000≤a.at_∧a.at_≤1000000) (hb:-1000000≤b.at_∧b.at_≤1000000) (ht:-1000000≤t.at_∧t.at_≤1000000) (hn:0≤n.size∧n.size≤1000000) (hP:G[P]?=some (.cells (prS e d a b n t R) st)) (hPe:P≠e) (h:EmH G e ops deep) (hl:ops.length≤800000)
  (k:∀ G',EmH G' e (ops++(z4g a b t n.size R deep i).flat) deep→Kp e G G'→K (.tup []) G'):z0k Tryz.prog (.fn 75) [.ptr P 0,.i i] G K:=by
 refine z01 r_montgomery_product_times k_montgomery_product_times (by simp) ?_
 have hQ:=hP
 unfold prS at hP
 have lP:=(List.getElem?_eq_some_iff.1 hP).1
 have le:e < G.length:=by obtain⟨_,_,h,_⟩:=id h; exact (List.getElem?_eq_some_iff.1 h).1
 have z0:(G++[LObj.cells [.ptr P 0] 0])[G.length]?=some (.cells [.ptr P 0] 0):=List.getElem?_concat_length
 have q0:(G++[LObj.cells [.ptr P 0] 0])[P]?=_:=(oldP lP).trans hQ
 have p0:(G++[LObj.cells [.ptr P 0] 0])[P]?=_:=(oldP lP).trans hP
 have h0:=h.app [LObj.cells [.ptr P 0] 0]
 have k0:=Kp.app' e G [LObj.cells [.ptr P 0] 0]
 have hze:G.length≠e:=by omega
 simp[z26,↓oldP lP,hP]
 generalize G++[LObj.cells [.ptr P 0] 0]=G0 at *
 generalize G.length=z at *
 refine z3q (p:=b) (by omega) h0 (by omega) fun G1 h1 k1=>?_
 have z1:=k1.cells hze z0
 have q1:=k1.cells hPe q0
 have p1:=k1.cells hPe p0
 simp[z1,p1]
 refine z6v h1 (by simp; omega) fun G2 h2 k2=>?_
 have z2:=k2.cells hze z1
 have q2:=k2.cells hPe q1
 have p2:=k2.cells hPe p1
 simp[z2,p2]
 refine zcr (fst:=[]) (cap:=[.ptr z 0]) (B:=frZ (z4t a t R deep)) (by omega) h2 (by simp; omega) (by rw[flat_frL]; simp[z4t,sumL]) (fun G3 ops3 K' h3 k3 l3 hk=>?_) fun G5 h5 k5=>?_
 ·rw[flat_frL] at hk
  exact zr6 ha ht (k3.cells hze z2) hze (k3.cells hPe q2) hPe h3 l3 hk
 have z5:=k5.cells hze z2
 have q5:=k5.cells hPe q2
 have p5:=k5.cells hPe p2
 simp[z5,p5]
 have hlB:(lpT deep n.size (frZ (z4t a t R deep))).flat.length≤100:=by rw[z43]; split <;> simp[flat_frL,z4t,sumL]
 refine ztg ht hn q5 hPe h5 (by simp; omega) fun G6 h6 k6=>?_
 have z6:=k6.cells hze z5
 have p6:=k6.cells hPe p5
 simp[z6,p6]
 refine z63 (p:=t) (by omega) h6 (by simp[topL]; omega) fun G7 h7 k7=>?_
 have z7:=k7.cells hze z6
 have p7:=k7.cells hPe p6
 simp[z7,p7]
 repeat (refine⟨by omega,?_⟩)
 refine z63 (p:=t) (by omega) h7 (by simp[topL]; omega) fun G8 h8 k8=>?_
 simp
 refine k G8 ?_ (k0.trans (k1.trans (k2.trans (k5.trans (k6.trans (k7.trans k8))))))
 unfold z4g
 rw[z1e,z1e,flat_frL,flat_frL]
 simpa using h8
end put
end Go.Proofs.YtodjkjimaheggaaGreat
