/- MontgomeryInto, walked. -/
import Derived.Test.YtodjkjimaheggaaGreatSvG3


import Derived.Test.YtodjkjimaheggaaGreatSvG4

import Derived.Test.YtodjkjimaheggaaGreatFnMo
import Derived.Test.YtodjkjimaheggaaGreatFnMl
import Derived.Test.YtodjkjimaheggaaGreatFnMk
import Derived.Test.YtodjkjimaheggaaGreatFnL23
import Derived.Test.YtodjkjimaheggaaGreatFnQ
namespace Go.Proofs.YtodjkjimaheggaaGreat
open Go.Sv
set_option linter.unusedSimpArgs false
set_option maxRecDepth 10000
def c_law23_MontgomeryInto:LC:=(.seq (.ops [.z 8 (.box (.t 0)),.z 12 (.box (.t 4)),.z 16 (.move (.c (.bool false)))]) (.seq (.seq (.ops [.z 43 (.callV (.c (.fn (.func 13) [] [])) []),.z 44 (.un .not (.t 43))]) (.cond (.t 44) (.seq (.ops [.z 16 (.move (.c (.bool false)))]) .ret) .skip)) (.seq (.seq (.ops [.m 45 1,.z 46 (.lenSl (.t 45)),.z 47 (.bin .gtr true 3 (.t 46) (.c (.i 40))),.m 48 47,⟨some 49,(some (48,false)),.move (.t 2)⟩,⟨some 50,(some (48,false)),.lenSl (.t 49)⟩,⟨some 51,(some (48,false)),.bin .gtr true 3 (.t 50) (.c (.i 40))⟩,.z 52 (.pick (.t 48) (.c (.bool true)) (.t 51)),.m 53 52,⟨some 54,(some (53,false)),.move (.t 3)⟩,⟨some 55,(some (53,false)),.lenSl (.t 54)⟩,⟨some 56,(some (53,false)),.bin .gtr true 3 (.t 55) (.c (.i 40))⟩,.z 57 (.pick (.t 53) (.c (.bool true)) (.t 56))]) (.cond (.t 57) (.seq (.ops [.z 16 (.move (.c (.bool true)))]) .ret) .skip)) (.seq (.ops [.l 58 8,.z 59 (.callV (.c (.fn (.func 17) [] [])) [.t 58,.c (.i 6)]),.z 60 (.bin .add true 3 (.c (.i 1)) (.t 59)),⟨none,none,.store 1 (.t 8) (.t 60)⟩]) (.seq (.ops [.l 61 12,.z 62 (.callV (.c (.fn (.func 17) [] [])) [.t 61,.c (.i 5)]),.m 63 6,.z 64 (.callV (.c (.fn (.func 17) [] [])) [.t 63,.c (.i 7)]),.m 65 7,.z 66 (.callV (.c (.fn (.func 17) [] [])) [.t 65,.c (.i 35)]),.z 67 (.bin .add true 3 (.c (.i 16)) (.t 66)),⟨none,none,.store 1 (.t 12) (.t 62)⟩,.m 6 64,.m 7 67]) (.seq (.ops [.l 68 8,.z 69 (.callV (.c (.fn (.func 21) [] [])) [.t 68]),.m 17 69]) (.seq (.seq (.ops [.m 70 17,.l 71 8,.z 72 (.bin .lss false 3 (.t 70) (.t 71)),.m 73 72,⟨some 74,(some (73,false)),.move (.t 17)⟩,⟨some 75,(some (73,false)),.load1 (.t 8)⟩,⟨some 76,(some (73,false)),.bin .mul true 3 (.c (.i 2)) (.t 75)⟩,⟨some 77,(some (73,false)),.bin .add true 3 (.t 76) (.c (.i 8))⟩,⟨some 78,(some (73,false)),.bin .gtr false 3 (.t 74) (.t 77)⟩,.z 79 (.pick (.t 73) (.c (.bool true)) (.t 78))]) (.cond (.t 79) (.seq (.ops [.z 16 (.move (.c (.bool false)))]) .ret) .skip)) (.seq (.ops [.l 80 8,.z 81 (.bin .mul true 3 (.c (.i 4)) (.t 80)),.l 82 12,.z 83 (.bin .add false 3 (.t 81) (.t 82)),.z 84 (.build [(.i 0),(.i 0),(.bool false)] [(0,1,.t 83),(1,1,.c (.i 2)),(2,1,(.c (.bool true)))]),.m 85 17,.l 86 12,.z 87 (.bin .add false 3 (.t 85) (.t 86)),.z 88 (.build [(.i 0),(.i 0),(.bool false)] [(0,1,.t 87),(1,1,.c (.i 3)),(2,1,(.c (.bool true)))]),.z 89 (.buildSl 3 2 [(.i 0),(.i 0),(.bool false),(.i 0),(.i 0),(.bool false)] [(0,3,.t 84),(3,3,.t 88)]),.z 90 (.build [.nilSl,.nilSl,(.i 0),(.i 0),(.i 0),(.i 0),(.i 0),(.i 0)] [(0,1,.t 89)]),.z 18 (.alloc [.nilSl,.nilSl,(.i 0),(.i 0),(.i 0),(.i 0),(.i 0),(.i 0)]),⟨none,none,.store 8 (.t 18) (.t 90)⟩]) (.seq (.ops [.z 91 (.mkFunc 22 [] [.t 12,.t 8]),.m 19 91]) (.seq (.ops [.m 92 5,.z 93 (.callV (.c (.fn (.func 17) [] [])) [.t 92,.c (.i 3)]),.m 20 93]) (.seq (.seq (.ops [.m 94 20,.z 95 (.bin .eql true 3 (.t 94) (.c (.i 2)))]) (.cond (.t 95) (.ops [.z 20 (.move (.c (.i 3)))]) .skip)) (.seq (.draw [(.m 96 19,[]),(.m 97 20,[]),(.m 99 19,[]),(.m 101 19,[]),(.m 103 19,[]),(.l 105 12,[]),(.m 106 17,[]),(.z 107 (.build [(.i 0),(.i 0),(.i 0)] [(0,1,.c (.i 1)),(1,1,.t 105),(2,1,.t 106)]),[]),(.m 108 6,[]),(.m 109 7,[]),(.z 98 (.callV (.t 96) [.t 97]),[(.l 105 12,false)]),(.z 100 (.callV (.t 99) [(.c (.i 0))]),[(.l 105 12,false)]),(.z 102 (.callV (.t 101) [(.c (.i 1))]),[(.l 105 12,false)]),(.z 104 (.callV (.t 103) [(.c (.i 2))]),[(.l 105 12,false)]),(.z 110 (.callV (.c (.fn (.func 23) [] [])) [.t 98,.t 100,.t 102,.t 104,.t 107,.t 108,.t 109]),[]),(.m 21 110,[])]) (.seq (.ops [.z 111 (.loadN 8 (.t 18)),.m 112 21,.m 113 6,.z 114 (.callV (.c (.fn (.func 24) [] [])) [.t 111,.t 112,.t 113]),.z 22 (.alloc [(.i 0),.nilSl,.nilSl]),⟨none,none,.store 3 (.t 22) (.t 114)⟩]) (.seq (.ops [.z 116 (.loadN 3 (.t 22)),.z 117 (.callV (.c (.fn (.func 25) [] [])) [.t 116]),.m 115 117,.z 118 (.extract 0 (.t 115)),.z 119 (.extract 1 (.t 115)),.m 23 118,.m 24 119]) (.seq (.seq (.ops [.m 120 21,.z 121 (.lenSl (.t 120)),.z 122 (.bin .eql true 3 (.t 121) (.c (.i 0))),.m 123 122,⟨some 124,(some (123,false)),.move (.t 24)⟩,⟨some 125,(some (123,false)),.bin .neq true 35 (.t 124) (.c (.i 0))⟩,.z 126 (.pick (.t 123) (.c (.bool true)) (.t 125))]) (.cond (.t 126) (.seq (.ops [.z 16 (.move (.c (.bool false)))]) .ret) .skip)) (.seq (.seq (.ops [.z 25 (.move (.c (.i 0)))]) (.block 0 (.loop (.seq (.seq (.ops [.m 127 25,.m 128 21,.z 129 (.lenSl (.t 128)),.z 130 (.bin .lss false 3 (.t 127) (.t 129))]) (.cond (.t 130) .skip (.exit 0))) (.seq (.block 1 (.seq (.draw [(.m 133 21,[]),(.m 134 25,[]),(.z 135 (.ixAddr 8 (.t 133) (.t 134)),[]),(.f 136 1 135,[]),(.l 137 136,[]),(.m 138 21,[]),(.m 139 25,[]),(.z 140 (.ixAddr 8 (.t 138) (.t 139)),[]),(.f 141 2 140,[]),(.l 142 141,[]),(.m 143 21,[]),(.m 144 25,[]),(.z 145 (.ixAddr 8 (.t 143) (.t 144)),[]),(.f 146 3 145,[]),(.l 147 146,[]),(.m 148 21,[]),(.m 149 25,[]),(.z 150 (.ixAddr 8 (.t 148) (.t 149)),[]),(.f 151 4 150,[]),(.l 152 151,[]),(.m 153 21,[]),(.m 154 25,[]),(.z 155 (.ixAddr 8 (.t 153) (.t 154)),[]),(.f 156 5 155,[]),(.l 157 156,[]),(.z 158 (.buildSl 1 5 [(.i 0),(.i 0),(.i 0),(.i 0),(.i 0)] [(0,1,.t 137),(1,1,.t 142),(2,1,.t 147),(3,1,.t 152),(4,1,.t 157)]),[(.l 157 156,false),(.l 152 151,false),(.l 147 146,false),(.l 142 141,false),(.l 137 136,false)]),(.z 159 (.lenSl (.t 158)),[]),(.z 160 (.move (.c (.i 0))),[])]) (.block 2 (.loop (.seq (.ops [.z 161 (.bin .lss false 3 (.t 160) (.t 159))]) (.seq (.cond (.t 161) .skip (.exit 2)) (.seq (.block 3 (.seq (.ops [.z 162 (.ixAddr 1 (.t 158) (.t 160)),.l 163 162,.m 27 163]) (.seq (.ops [.m 164 27,.z 165 (.bin .geq true 3 (.t 164) (.c (.i 0))),.m 166 165,⟨some 167,(some (166,true)),.move (.t 27)⟩,⟨some 168,(some (166,true)),.move (.t 6)⟩,⟨some 169,(some (166,true)),.bin .lss false 3 (.t 167) (.t 168)⟩,.z 170 (.pick (.t 166) (.t 169) (.c (.bool false))),.m 171 170,⟨some 172,(some (171,false)),.move (.t 27)⟩,⟨some 173,(some (171,false)),.move (.t 6)⟩,⟨some 174,(some (171,false)),.bin .add true 3 (.t 173) (.c (.i 1))⟩,⟨some 175,(some (171,false)),.bin .gtr false 3 (.t 172) (.t 174)⟩,⟨some 176,(some (171,false)),.move (.t 175)⟩,⟨some 177,(some (176,true)),.move (.t 27)⟩,⟨some 178,(some (176,true)),.bin .lss true 3 (.t 177) (.c (.i 8))⟩,⟨some 179,(some (171,false)),.pick (.t 176) (.t 178) (.c (.bool false))⟩,.z 180 (.pick (.t 171) (.c (.bool true)) (.t 179)),.m 181 180,⟨some 182,(some (181,false)),.move (.t 27)⟩,⟨some 183,(some (181,false)),.bin .gtr true 3 (.t 182) (.c (.i 11))⟩,⟨some 184,(some (181,false)),.move (.t 183)⟩,⟨some 185,(some (184,true)),.move (.t 27)⟩,⟨some 186,(some (184,true)),.move (.t 7)⟩,⟨some 187,(some (184,true)),.bin .lss false 3 (.t 185) (.t 186)⟩,⟨some 188,(some (181,false)),.pick (.t 184) (.t 187) (.c (.bool false))⟩,.z 189 (.pick (.t 181) (.c (.bool true)) (.t 188)),.m 190 189,⟨some 191,(some (190,false)),.move (.t 27)⟩,⟨some 192,(some (190,false)),.move (.t 7)⟩,⟨some 193,(some (190,false)),.bin .add true 3 (.t 192) (.c (.i 14))⟩,⟨some 194,(some (190,false)),.bin .geq false 3 (.t 191) (.t 193)⟩,.z 195 (.pick (.t 190) (.c (.bool true)) (.t 194))]) (.cond (.t 195) (.seq (.ops [.z 16 (.move (.c (.bool false)))]) .ret) .skip)))) (.ops [.z 196 (.bin .add true 3 (.t 160) (.c (.i 1))),.m 160 196])))))))) (.ops [.m 131 25,.z 132 (.bin .add true 3 (.t 131) (.c (.i 1))),.m 25 132])))))) (.seq (.draw [(.m 197 3,[]),(.z 199 (.buildSl 1 1 [(.u 0)] [(0,1,.c (.u 7))]),[]),(.l 201 8,[]),(.z 198 (.callV (.c (.fn (.func 27) [] [])) [.t 197]),[(.l 201 8,false),(.z 199 (.buildSl 1 1 [(.u 0)] [(0,1,.c (.u 7))]),true)]),(.z 200 (.appG 1 (.t 198) (.t 199)),[(.l 201 8,false)]),(.z 202 (.callV (.c (.fn (.func 26) [] [])) [.t 200,.t 201]),[]),(.m 28 202,[])]) (.seq (.ops [.m 203 28,.m 204 28,.z 205 (.ixAddr 1 (.t 204) (.c (.i 0))),.l 206 205,.z 207 (.bin .or true 23 (.t 206) (.c (.u 1))),.z 208 (.ixAddr 1 (.t 203) (.c (.i 0))),⟨none,none,.store 1 (.t 208) (.t 207)⟩]) (.seq (.ops [.l 209 8,.z 210 (.bin .mul true 3 (.c (.i 4)) (.t 209)),.l 211 12,.z 212 (.bin .add false 3 (.t 210) (.t 211)),.z 213 (.mkSl 1 [(.u 0)] (.t 212) (.t 212)),.m 29 213]) (.seq (.draw [(.m 215 1,[]),(.z 217 (.buildSl 1 1 [(.u 0)] [(0,1,.c (.u 3))]),[]),(.l 219 8,[]),(.m 221 28,[]),(.z 216 (.callV (.c (.fn (.func 27) [] [])) [.t 215]),[(.l 219 8,false),(.z 217 (.buildSl 1 1 [(.u 0)] [(0,1,.c (.u 3))]),true)]),(.z 218 (.appG 1 (.t 216) (.t 217)),[(.l 219 8,false)]),(.z 220 (.callV (.c (.fn (.func 26) [] [])) [.t 218,.t 219]),[]),(.z 222 (.callV (.c (.fn (.func 28) [] [])) [.t 220,.t 221]),[]),(.m 214 222,[]),(.z 223 (.extract 0 (.t 214)),[]),(.z 224 (.extract 1 (.t 214)),[]),(.z 225 (.extract 2 (.t 214)),[]),(.m 30 223,[]),(.m 31 224,[]),(.m 32 225,[])]) (.seq (.draw [(.m 227 2,[]),(.z 229 (.buildSl 1 1 [(.u 0)] [(0,1,.c (.u 5))]),[]),(.l 231 8,[]),(.m 233 28,[]),(.z 228 (.callV (.c (.fn (.func 27) [] [])) [.t 227]),[(.l 231 8,false),(.z 229 (.buildSl 1 1 [(.u 0)] [(0,1,.c (.u 5))]),true)]),(.z 230 (.appG 1 (.t 228) (.t 229)),[(.l 231 8,false)]),(.z 232 (.callV (.c (.fn (.func 26) [] [])) [.t 230,.t 231]),[]),(.z 234 (.callV (.c (.fn (.func 28) [] [])) [.t 232,.t 233]),[]),(.m 226 234,[]),(.z 235 (.extract 0 (.t 226)),[]),(.z 236 (.extract 1 (.t 226)),[]),(.z 237 (.extract 2 (.t 226)),[]),(.m 33 235,[]),(.m 34 236,[]),(.m 35 237,[])]) (.seq (.ops [.m 238 29,.l 239 12,.z 240 (.slSl 1 (.t 238) (some (.t 239)) none),.m 241 31,.z 242 (.copy 1 (.t 240) (.t 241))]) (.seq (.ops [.m 243 29,.l 244 12,.l 245 8,.z 246 (.bin .add false 3 (.t 244) (.t 245)),.z 247 (.slSl 1 (.t 243) (some (.t 246)) none),.m 248 34,.z 249 (.copy 1 (.t 247) (.t 248))]) (.seq (.ops [.m 250 29,.l 251 12,.l 252 8,.z 253 (.bin .mul true 3 (.c (.i 2)) (.t 252)),.z 254 (.bin .add false 3 (.t 251) (.t 253)),.z 255 (.slSl 1 (.t 250) (some (.t 254)) none),.m 256 28,.z 257 (.copy 1 (.t 255) (.t 256))]) (.seq (.ops [.z 259 (.loadN 3 (.t 22)),.m 260 29,.z 261 (.buildSl 1 2 [.nilSl,.nilSl] [(0,1,.t 260),(1,1,(.c .nilSl))]),.z 262 (.callV (.c (.fn (.func 29) [] [])) [.t 259,.t 261]),.m 258 262,.z 263 (.extract 0 (.t 258)),.z 264 (.extract 1 (.t 258)),.z 265 (.extract 2 (.t 258)),.m 36 263,.m 37 264,.m 38 265]) (.seq (.draw [(.m 267 31,[]),(.m 268 34,[]),(.m 270 28,[]),(.l 271 8,[]),(.z 269 (.callV (.c (.fn (.func 31) [] [])) [.t 267,.t 268]),[(.l 271 8,false)]),(.z 272 (.callV (.c (.fn (.func 30) [] [])) [.t 269,.t 270,.t 271]),[]),(.m 266 272,[]),(.z 273 (.extract 0 (.t 266)),[]),(.z 274 (.extract 1 (.t 266)),[]),(.m 39 273,[]),(.m 40 274,[])]) (.seq (.seq (.ops [.m 275 38,.z 276 (.bin .neq true 35 (.t 275) (.c (.i 0))),.m 277 276,⟨some 278,(some (277,false)),.move (.t 40)⟩,⟨some 279,(some (277,false)),.bin .neq true 35 (.t 278) (.c (.i 0))⟩,.z 280 (.pick (.t 277) (.c (.bool true)) (.t 279))]) (.cond (.t 280) (.seq (.ops [.z 16 (.move (.c (.bool false)))]) .ret) .skip)) (.seq (.seq (.ops [.z 41 (.move (.c (.i 0)))]) (.block 4 (.loop (.seq (.seq (.ops [.m 281 41,.m 282 29,.z 283 (.lenSl (.t 282)),.z 284 (.bin .lss false 3 (.t 281) (.t 283))]) (.cond (.t 284) .skip (.exit 4))) (.seq (.block 5 (.seq (.ops [.m 287 41,.l 288 12,.m 289 20,.l 290 8,.z 291 (.bin .mul false 3 (.t 289) (.t 290)),.z 292 (.bin .add false 3 (.t 288) (.t 291)),.z 293 (.bin .geq false 3 (.t 287) (.t 292)),.m 294 293,⟨some 295,(some (294,true)),.move (.t 41)⟩,⟨some 296,(some (294,true)),.load1 (.t 12)⟩,⟨some 297,(some (294,true)),.move (.t 20)⟩,⟨some 298,(some (294,true)),.bin .add true 3 (.t 297) (.c (.i 1))⟩,⟨some 299,(some (294,true)),.load1 (.t 8)⟩,⟨some 300,(some (294,true)),.bin .mul false 3 (.t 298) (.t 299)⟩,⟨some 301,(some (294,true)),.bin .add false 3 (.t 296) (.t 300)⟩,⟨some 302,(some (294,true)),.bin .lss false 3 (.t 295) (.t 301)⟩,.z 303 (.pick (.t 294) (.t 302) (.c (.bool false))),.m 42 303]) (.seq (.draw [(.m 304 42,[]),(.z 305 (.un .not (.t 304)),[]),(.m 306 305,[]),(⟨some 307,(some (306,true)),.move (.t 36)⟩,[]),(⟨some 308,(some (306,true)),.ixAddr 1 (.t 307) (.c (.i 0))⟩,[]),(⟨some 309,(some (306,true)),.load1 (.t 308)⟩,[]),(⟨some 310,(some (306,true)),.move (.t 41)⟩,[]),(⟨some 311,(some (306,true)),.ixAddr 1 (.t 309) (.t 310)⟩,[]),(⟨some 312,(some (306,true)),.load1 (.t 311)⟩,[]),(⟨some 313,(some (306,true)),.move (.t 29)⟩,[]),(⟨some 314,(some (306,true)),.move (.t 41)⟩,[]),(⟨some 315,(some (306,true)),.ixAddr 1 (.t 313) (.t 314)⟩,[]),(⟨some 316,(some (306,true)),.load1 (.t 315)⟩,[]),(⟨some 317,(some (306,true)),.bin .neq false 23 (.t 312) (.t 316)⟩,[]),(.z 318 (.pick (.t 306) (.t 317) (.c (.bool false))),[])]) (.cond (.t 318) (.seq (.ops [.z 16 (.move (.c (.bool false)))]) .ret) .skip)))) (.ops [.m 285 41,.z 286 (.bin .add true 3 (.t 285) (.c (.i 1))),.m 41 286])))))) (.seq (.draw [(.m 319 36,[]),(.z 320 (.ixAddr 1 (.t 319) (.c (.i 0))),[]),(.l 321 320,[]),(.l 322 12,[]),(.m 323 20,[]),(.l 324 8,[]),(.z 325 (.bin .mul false 3 (.t 323) (.t 324)),[]),(.z 326 (.bin .add false 3 (.t 322) (.t 325)),[]),(.l 327 12,[]),(.m 328 20,[]),(.z 329 (.bin .add true 3 (.t 328) (.c (.i 1))),[]),(.l 330 8,[]),(.z 331 (.bin .mul false 3 (.t 329) (.t 330)),[]),(.z 332 (.bin .add false 3 (.t 327) (.t 331)),[]),(.z 333 (.slSl 1 (.t 321) (some (.t 326)) (some (.t 332))),[]),(.m 334 39,[]),(.z 335 (.callV (.c (.fn (.func 32) [] [])) [.t 333,.t 334]),[]),(.m 16 335,[])]) .ret)))))))))))))))))))))))))))))
theorem r_law23_MontgomeryInto:resFn Tryz.prog 4=some ⟨336,c_law23_MontgomeryInto.r,[.tmp 16]⟩:=by kernel_rfl
theorem k_law23_MontgomeryInto:c_law23_MontgomeryInto.ok=true:=by kernel_rfl
def c_law23_MontgomeryInto_1:LC:=(.seq (.ops [.z 4 (.alloc [(.i 0),(.i 0),(.i 0)])]) (.seq (.ops [.l 5 1,.m 6 0,.l 7 2,.z 8 (.bin .mul false 3 (.t 6) (.t 7)),.z 9 (.bin .add false 3 (.t 5) (.t 8)),.l 10 2,.z 11 (.build [(.i 0),(.i 0),(.i 0)] [(1,1,.t 9),(2,1,.t 10)]),⟨none,none,.store 3 (.t 4) (.t 11)⟩]) .ret))
theorem r_law23_MontgomeryInto_1:resFn Tryz.prog 22=some ⟨12,c_law23_MontgomeryInto_1.r,[.cellN 4 3]⟩:=by kernel_rfl
theorem k_law23_MontgomeryInto_1:c_law23_MontgomeryInto_1.ok=true:=by kernel_rfl
theorem law23_MontgomeryInto_1_ok {G:LHeap} {K:LV→LHeap→Prop} {p q sp sq:Nat} {i by_ k:Int} (hi:0≤i∧i≤10) (hb:0≤by_∧by_≤10) (hk:0≤k∧k≤10) (hp:G[p]?=some (.cells [.i by_] sp)) (hq:G[q]?=some (.cells [.i k] sq))
  (kk:K (.agg (Pc.f ⟨0,by_+i * k,k⟩)) (G++[.cells [.i 0,.i (by_+i * k),.i k] 1])):CallL Tryz.prog (.fn 22) [.i i,.ptr p 0,.ptr q 0] G K:=by
 have h1:0≤i * k∧i * k≤100:=⟨Int.mul_nonneg hi.1 hk.1,by have:=Int.mul_le_mul hi.2 hk.2 hk.1 (by omega); omega⟩
 have lp:=(List.getElem?_eq_some_iff.1 hp).1
 have lq:=(List.getElem?_eq_some_iff.1 hq).1
 refine call_body r_law23_MontgomeryInto_1 k_law23_MontgomeryInto_1 (by simp) ?_
 simp[c_law23_MontgomeryInto_1,↓oldP lp,↓oldP lq,hp,hq]
 refine⟨by omega,by omega,?_⟩
 simpa [Pc.f] using kk
theorem odd_or (x:UInt64) (l:List UInt64):oddL (orU x 1::l)=true:=by
 unfold oddL
 refine decide_eq_true ?_
 rw[List.getD_cons_zero,orU_eq]
 apply UInt64.toNat.inj
 rw[UInt64.toNat_mod,UInt64.toNat_or]
 show (x.toNat ||| 1) % 2=1
 rw[Nat.or_mod_two_eq_one]
 exact .inr rfl
theorem intoC_I {k y e r d:Nat} (hk:k≤5) (he:e≤6) (hr:r≤34):intoC (pnI k y d).p (pnI k y 0).p (pnI k y 1).p (pnI k y 2).p (pnW k y).p e (16+r:Nat)=(treeI k y e r d).flat:=by
 have h1:needM ((k+1:Nat):Int)=((k+3:Nat):Int):=by unfold needM; rw[if_neg (by omega)]; omega
 have h2:intoOk (pnI k y d).p (pnI k y 0).p (pnI k y 1).p (pnI k y 2).p (pnW k y).p e (16+r:Nat)=true:=by
  have h1':needM ((k:Int)+1)=k+3:=by unfold needM; rw[if_neg (by omega)]; omega
  simp[intoOk,pnI,pnW,Pn.p,h1',allowM]
  exact⟨decide_eq_true (by omega),by omega,by omega,by omega⟩
 unfold intoC
 rw[if_pos h2]
 show (intoT _ _ _ _ ⟨(pnW k y).p.buf,(pnW k y).p.at_,needM ((k+1:Nat):Int)⟩ _ _ _).flat=_
 rw[h1]
 rfl
theorem pnI_at {k y j:Nat} (hk:k≤5) (hy:y≤4) (hj:j≤3):-1000000≤(pnI k y j).p.at_∧(pnI k y j).p.at_≤1000000:=by
 have:=Nat.mul_le_mul_right (k+1) hj
 simp only[pnI,Pn.p]
 omega
set_option maxHeartbeats 2000000 in
theorem law23_MontgomeryInto_run (limbs:Int) (a b n:List UInt64) (by_ which deep regs:Int):CallL Tryz.prog (.fn 4) [.i limbs,LU a,LU b,LU n,.i by_,.i which,.i deep,.i regs] [] fun v _=>v=.bool true:=by
 refine call_spl r_law23_MontgomeryInto k_law23_MontgomeryInto (by simp) ?_
 refine W_spl (Φ:=fun ρ D G=>∃ k y e r d:Nat,k≤5∧y≤4∧e≤6∧r≤34∧(d=0∨d=1∨d=3)∧a.length≤40∧b.length≤40∧n.length≤40∧D=[]∧lk ρ 1=LU a∧lk ρ 2=LU b∧lk ρ 3=LU n∧lk ρ 6=.i e∧lk ρ 7=.i (16+r)∧lk ρ 8=.ptr 0 0∧lk ρ 12=.ptr 1 0∧lk ρ 17=.i (k+3)∧lk ρ 18=.ptr 3 0∧lk ρ 19=.fn (.func 22) [] [.ptr 1 0,.ptr 0 0]∧lk ρ 20=.i d ∧
   G=[.cells [.i (1+k)] 1,.cells [.i y] 1,.dyn [.i (4 * (1+k)+y),.i 2,.bool true,.i (k+3+y),.i 3,.bool true] 2 3 0 0,.cells [.dy 2 0,.nilSl,.i 0,.i 0,.i 0,.i 0,.i 0,.i 0] 1]) 10 _ rfl (fun Nx hNx=>?_) (fun ρ D G hΦ=>?_)
 ·simp[c_law23_MontgomeryInto,spl,LU]
  refine CallL_F law23_lives_ok (by simp) ?_
  by_cases ha:(40:Int) < a.length
  ·simp[ha]
  by_cases hb:(40:Int) < b.length
  ·simp[ha,hb]
  by_cases hn:(40:Int) < n.length
  ·simp[ha,hb,hn]
  simp[ha,hb,hn]
  obtain⟨k,hk,hK⟩:=kit_Pick_ok limbs 6 (by omega)
  refine CallL_F hK (by simp) ?_
  simp
  refine⟨by omega,?_⟩
  obtain⟨y,hy,hY⟩:=kit_Pick_ok by_ 5 (by omega)
  refine CallL_F hY (by simp) ?_
  simp
  obtain⟨e,he,hE⟩:=kit_Pick_ok deep 7 (by omega)
  refine CallL_F hE (by simp) ?_
  simp
  obtain⟨r,hr,hRr⟩:=kit_Pick_ok regs 35 (by omega)
  refine CallL_F hRr (by simp) ?_
  simp
  refine⟨by omega,?_⟩
  refine montgomery_Need_ok (by omega) ?_
  have hN:needM (1+(k:Int))=k+3:=by unfold needM; rw[if_neg (by omega)]; omega
  rw[hN]
  have g1:¬ (k:Int)+3 < 1+k:=by omega
  have g2:¬ 2 * (1+(k:Int))+8 < k+3:=by omega
  simp[g1,g2]
  repeat (refine⟨by omega,?_⟩)
  obtain⟨w,hw,hW⟩:=kit_Pick_ok which 3 (by omega)
  refine CallL_F hW (by simp) ?_
  by_cases hw2:w=2
  ·subst hw2
   simp
   exact hNx _ _ _ ⟨k,y,e,r,3,by omega,by omega,by omega,by omega,by omega,by omega,by omega,by omega,rfl,by simp[LU],by simp[LU],by simp[LU],by simp,by simp,by simp,by simp,by simp,by simp,by simp,by simp,rfl⟩
  ·have hw3:¬ (w:Int)=2:=by omega
   simp[hw3]
   exact hNx _ _ _ ⟨k,y,e,r,w,by omega,by omega,by omega,by omega,by omega,by omega,by omega,by omega,rfl,by simp[LU],by simp[LU],by simp[LU],by simp,by simp,by simp,by simp,by simp,by simp,by simp,by simp,rfl⟩
 obtain⟨k,y,e,r,d,hk,hy,he,hr,hd,ha,hb,hn,rfl,h1,h2,h3,h6,h7,h8,h12,h17,h18,h19,h20,rfl⟩:=hΦ
 refine W_spl (Φ:=fun ρ D G=>∃ k y e r d:Nat,k≤5∧y≤4∧e≤6∧r≤34∧(d=0∨d=1∨d=3)∧a.length≤40∧b.length≤40∧n.length≤40∧D=[]∧lk ρ 1=LU a∧lk ρ 2=LU b∧lk ρ 3=LU n∧lk ρ 8=.ptr 0 0∧lk ρ 12=.ptr 1 0∧lk ρ 20=.i d∧lk ρ 22=.ptr 8 0∧9≤G.length ∧
   G[0]?=some (.cells [.i (1+k)] 1)∧G[1]?=some (.cells [.i y] 1)∧G[8]?=some (.cells (lpV ((64:Nat):Int) (bsI k y) (progI k y e r d).flat) 1)) 4 _ rfl (fun NX hNX=>?_) (fun ρ D G hΦ=>?_)
 ·simp[c_law23_MontgomeryInto,spl,h6,h7,h8,h12,h17,h18,h19,h20]
  refine law23_MontgomeryInto_1_ok (i:=(d:Int)) (by_:=(y:Int)) (k:=1+(k:Int)) (by omega) (by omega) (by omega) (sp:=1) (sq:=1) (by rfl) (by rfl) ?_
  simp[h12]
  refine law23_MontgomeryInto_1_ok (i:=0) (by_:=(y:Int)) (k:=1+(k:Int)) (by omega) (by omega) (by omega) (sp:=1) (sq:=1) (by rfl) (by rfl) ?_
  simp[h12]
  refine law23_MontgomeryInto_1_ok (i:=1) (by_:=(y:Int)) (k:=1+(k:Int)) (by omega) (by omega) (by omega) (sp:=1) (sq:=1) (by rfl) (by rfl) ?_
  simp[h12]
  refine law23_MontgomeryInto_1_ok (i:=2) (by_:=(y:Int)) (k:=1+(k:Int)) (by omega) (by omega) (by omega) (sp:=1) (sq:=1) (by rfl) (by rfl) ?_
  simp[h12]
  have p0:(⟨0,(y:Int),1+k⟩:Pc)=(pnI k y 0).p:=by have:=pnI_p k y 0; simpa using this
  have p1:(⟨0,(y:Int)+(1+k),1+k⟩:Pc)=(pnI k y 1).p:=by have:=pnI_p k y 1; simpa using this
  have p2:(⟨0,(y:Int)+2 * (1+k),1+k⟩:Pc)=(pnI k y 2).p:=by have:=pnI_p k y 2; simpa using this
  have pw:[LV.i 1,.i (y:Int),.i ((k:Int)+3)]=(pnW k y).p.f:=rfl
  have d3:d≤3:=by omega
  rw[pnI_p k y d,p0,p1,p2,pw]
  have hI:=montgomery_Into_ok (d:=(pnI k y d).p) (a:=(pnI k y 0).p) (b:=(pnI k y 1).p) (n:=(pnI k y 2).p) (w:=(pnW k y).p) (deep:=e) (R:=(16+r:Nat)) (pnI_at hk hy d3) (pnI_at hk hy (by omega)) (pnI_at hk hy (by omega)) (pnI_at hk hy (by omega)) (by simp only[pnW,Pn.p]; omega) (by simp only[pnI,Pn.p]; omega)
  rw[intoC_I hk he hr] at hI
  refine CallL_V hI (by simp[dats,LV.dat,Pc.f]) ?_
  simp[h6,h18]
  have hT0:(treeI k y e r d).flat.length≤60000:=by
   have h1:=flat_le (treeI_all (k:=k) (y:=y) (e:=e) (r:=r) (d:=d) hk)
   have h2:=treeI_stp (k:=k) (y:=y) (e:=e) (r:=r) (d:=d) hk
   omega
  have hT1:0 < (treeI k y e r d).flat.length:=treeI_pos
  have hFl:(progI k y e r d).flat=lpsL e 0++((treeI k y e r d).flat++List.replicate e cEn):=wrap_flat e 0 _
  have hrg:=treeI_rg (k:=k) (y:=y) (e:=e) (r:=r) (d:=d) hk
  have hPr:=law23_program_ok (bs:=bsI k y) (P:=.nilSl) (W:=[.i 0,.i 0,.i 0,.i 0,.i 0,.i 0]) (L:=(treeI k y e r d).flat) (deep:=e) (by omega) (by omega) ⟨_,_,_,_,_,_,rfl⟩
  rw[←hFl] at hPr
  generalize hTT:(treeI k y e r d).flat=T at *
  refine CallL_fzC (p:=2) (q:=3) (a:=[]) (b:=[.nilSl,.i 0,.i 0,.i 0,.i 0,.i 0,.i 0]) (args':=[.agg (.lst (bfC (bsI k y)) 2 3::.nilSl::[.i 0,.i 0,.i 0,.i 0,.i 0,.i 0]),.lst (loC T) T.length 8,.i e]) (by rfl) (by rfl) (fun c c' r hle hx ha=>?_) ?_
  ·cases ha with
   | cons e es=>cases e with
    | agg e=>cases e with
     | cons e1 e2=>exact .cons (.agg (.cons (hx _ e1) (e2.mono hle))) (es.mono hle)
  refine CallL_V hPr (by simp[dats,LV.dat,loC_dats,bfC_dats]) ?_
  have hck:=progI_chk (k:=k) (y:=y) (e:=e) (r:=r) (d:=d) hk hy he hr d3
  have hcl:Closed (bsI k y) C16 (progI k y e r d).flat:=fun o ho=>progI_fields hk he o ho ((chkR_parts hck).2.2.2.2.2 o ho)
  have hC:=ref13_Check_ok hck hcl (progI_safe hk he)
  have hlp:lpV ((64:Nat):Int) (bsI k y) (progI k y e r d).flat=[.i 64,.lst (bfC (bsI k y)) 2 3,.lst (loC (progI k y e r d).flat) (progI k y e r d).flat.length 8]:=rfl
  rw[hlp] at hC ⊢
  simp
  refine CallL_V hC (by simp[dats,LV.dat,loC_dats,bfC_dats]) ?_
  have hT2:¬ (T.length:Int)=0:=by omega
  have hT3:T≠[]:=fun q=>by rw[q] at hT1; simp at hT1
  simp[hT2,hT3]
  refine loop_nx (fun ρ D G N=>∃ i:Nat,D=[]∧N+i=T.length∧lk ρ 1=LU a∧lk ρ 2=LU b∧lk ρ 3=LU n∧lk ρ 6=.i e∧lk ρ 7=.i (16+r)∧lk ρ 8=.ptr 0 0∧lk ρ 12=.ptr 1 0∧lk ρ 20=.i d∧lk ρ 21=.lst (loC T) T.length 8∧lk ρ 22=.ptr 8 0∧lk ρ 25=.i i∧9≤G.length ∧
    G[0]?=some (.cells [.i (1+k)] 1)∧G[1]?=some (.cells [.i y] 1)∧G[8]?=some (.cells (lpV 64 (bsI k y) (progI k y e r d).flat) 1)) (N:=T.length)
   ⟨0,rfl,by omega,by simp[h1],by simp[h2],by simp[h3],by simp[h6],by simp[h7],by simp[h8],by simp[h12],by simp[h20],by simp,by simp,by simp,by simp,by simp,by simp,by simp; rfl⟩ ?_
  clear h1 h2 h3 h6 h7 h8 h12 h17 h18 h19 h20
  rintro N ρ D G ⟨i,rfl,hN,h1,h2,h3,h6,h7,h8,h12,h20,h21,h22,h25,hGl,hG0,hG1,hG8⟩ Nx hNx
  by_cases g:i < T.length
  ·have ho:=at_glo g
   have hmem:glo T i∈T:=List.mem_of_getElem? ho
   have hxs:=hrg _ hmem
   have o1:=lo_at ho (j:=1) (by omega)
   have o2:=lo_at ho (j:=2) (by omega)
   have o3:=lo_at ho (j:=3) (by omega)
   have o4:=lo_at ho (j:=4) (by omega)
   have o5:=lo_at ho (j:=5) (by omega)
   have hlt:=lo_lt g
   generalize glo T i=o at *
   simp[Lo.f] at o1 o2 o3 o4 o5
   have l1:i * 8+1 < (loC T).length:=by omega
   have l2:i * 8+2 < (loC T).length:=by omega
   have l3:i * 8+3 < (loC T).length:=by omega
   have l4:i * 8+4 < (loC T).length:=by omega
   have l5:i * 8+5 < (loC T).length:=by omega
   simp[h21,h25,g,nthL_at o1,nthL_at o2,nthL_at o3,nthL_at o4,nthL_at o5]
   have hz:(G++[LObj.dyn [.i o.d,.i o.e,.i o.a,.i o.b,.i o.c] 5 1 0 0])[G.length]?=some (.dyn [.i o.d,.i o.e,.i o.a,.i o.b,.i o.c] 5 1 0 0):=List.getElem?_concat_length
   have z0:=(oldP (x:=[LObj.dyn [.i o.d,.i o.e,.i o.a,.i o.b,.i o.c] 5 1 0 0]) (show 0 < G.length by omega)).trans hG0
   have z1:=(oldP (x:=[LObj.dyn [.i o.d,.i o.e,.i o.a,.i o.b,.i o.c] 5 1 0 0]) (show 1 < G.length by omega)).trans hG1
   have z8:=(oldP (x:=[LObj.dyn [.i o.d,.i o.e,.i o.a,.i o.b,.i o.c] 5 1 0 0]) (show 8 < G.length by omega)).trans hG8
   have zl:9≤(G++[LObj.dyn [.i o.d,.i o.e,.i o.a,.i o.b,.i o.c] 5 1 0 0]).length:=by simp; omega
   generalize G++[LObj.dyn [.i o.d,.i o.e,.i o.a,.i o.b,.i o.c] 5 1 0 0]=G2 at *
   generalize G.length=z at *
   refine loop_nx (fun ρ D G N=>∃ j:Nat,D=[]∧N+j=5∧lk ρ 1=LU a∧lk ρ 2=LU b∧lk ρ 3=LU n∧lk ρ 6=.i e∧lk ρ 7=.i (16+r)∧lk ρ 8=.ptr 0 0∧lk ρ 12=.ptr 1 0∧lk ρ 20=.i d∧lk ρ 21=.lst (loC T) T.length 8∧lk ρ 22=.ptr 8 0∧lk ρ 25=.i i∧lk ρ 158=.dy z 0∧lk ρ 159=.i 5∧lk ρ 160=.i j∧G=G2) (N:=5)
    ⟨0,rfl,rfl,by simp[h1],by simp[h2],by simp[h3],by simp[h6],by simp[h7],by simp[h8],by simp[h12],by simp[h20],by simp[h21],by simp[h22],by simp[h25],by simp,by simp,by simp,rfl⟩ ?_
   clear h1 h2 h3 h6 h7 h8 h12 h20 h21 h22 h25
   rintro N2 ρ D G3 ⟨j,rfl,hN2,h1,h2,h3,h6,h7,h8,h12,h20,h21,h22,h25,h158,h159,h160,rfl⟩ Nx2 hNx2
   by_cases gj:j < 5
   ·have gj':(j:Int) < 5:=by omega
    obtain⟨x,hx1,hx2⟩:∃ x,([LV.i o.d,.i o.e,.i o.a,.i o.b,.i o.c])[j]?=some (.i x)∧x∈[o.d,o.e,o.a,o.b,o.c]:=by
     have hj:j=0∨j=1∨j=2∨j=3∨j=4:=by omega
     rcases hj with rfl | rfl | rfl | rfl | rfl <;> exact⟨_,rfl,by simp⟩
    have nx:∀ (ρ':LEnv),lk ρ' 1=LU a→lk ρ' 2=LU b→lk ρ' 3=LU n→lk ρ' 6=.i e→lk ρ' 7=.i (16+r)→lk ρ' 8=.ptr 0 0→lk ρ' 12=.ptr 1 0→lk ρ' 20=.i d→lk ρ' 21=.lst (loC T) T.length 8→lk ρ' 22=.ptr 8 0→lk ρ' 25=.i i→lk ρ' 158=.dy z 0→lk ρ' 159=.i 5→lk ρ' 160=.i ((j:Int)+1)→Nx2 ρ' [] G3:=fun ρ' a1 a2 a3 a6 a7 a8 a12 a20 a21 a22 a25 a158 a159 a160=>hNx2 _ _ _ ⟨N2 - 1,by omega,j+1,rfl,by omega,a1,a2,a3,a6,a7,a8,a12,a20,a21,a22,a25,a158,a159,by rw[a160]; simp,rfl⟩
    rcases hxs x hx2 with q | q | q
    ·subst q
     simp[h6,h7,h158,h159,h160,hz,gj,gj',nthL_at hx1]
     exact⟨by omega,by omega,fun _=>⟨by omega,by omega,fun _=>⟨by omega,nx _ (by simp[h1]) (by simp[h2]) (by simp[h3]) (by simp[h6]) (by simp[h7]) (by simp[h8]) (by simp[h12]) (by simp[h20]) (by simp[h21]) (by simp[h22]) (by simp[h25]) (by simp[h158]) (by simp[h159]) (by simp)⟩⟩⟩
    ·have q0:0≤x:=by omega
     have q1:¬ x < (e:Int):=by omega
     have q2:(e:Int)+1 < x:=by omega
     have q3:¬ x < 8:=by omega
     have q4:11 < x:=by omega
     have q5:¬ x < 16+(r:Int):=by omega
     have q6:¬ 16+(r:Int)+14≤x:=by omega
     simp[h6,h7,h158,h159,h160,hz,gj,gj',nthL_at hx1,q0,q1,q2,q3,q4,q5,q6]
     exact⟨by omega,by omega,by omega,nx _ (by simp[h1]) (by simp[h2]) (by simp[h3]) (by simp[h6]) (by simp[h7]) (by simp[h8]) (by simp[h12]) (by simp[h20]) (by simp[h21]) (by simp[h22]) (by simp[h25]) (by simp[h158]) (by simp[h159]) (by simp)⟩
    ·have q0:0≤x:=by omega
     have q1:¬ x < (e:Int):=by omega
     have q2:¬ (e:Int)+1 < x:=by omega
     have q4:¬ 11 < x:=by omega
     have q6:¬ 16+(r:Int)+14≤x:=by omega
     simp[h6,h7,h158,h159,h160,hz,gj,gj',nthL_at hx1,q0,q1,q2,q4,q6]
     exact⟨by omega,by omega,by omega,nx _ (by simp[h1]) (by simp[h2]) (by simp[h3]) (by simp[h6]) (by simp[h7]) (by simp[h8]) (by simp[h12]) (by simp[h20]) (by simp[h21]) (by simp[h22]) (by simp[h25]) (by simp[h158]) (by simp[h159]) (by simp)⟩
   ·have gj':¬ (j:Int) < 5:=by omega
    simp[h159,h160,gj',gj,h25]
    refine⟨by omega,hNx _ _ _ ⟨N - 1,by omega,i+1,rfl,by omega,by simp[h1],by simp[h2],by simp[h3],by simp[h6],by simp[h7],by simp[h8],by simp[h12],by simp[h20],by simp[h21],by simp[h22],by simp,zl,z0,z1,z8⟩⟩
  ·simp[h21,h25,g]
   exact hNX _ _ _ ⟨k,y,e,r,d,hk,hy,he,hr,hd,ha,hb,hn,rfl,by simp[h1],by simp[h2],by simp[h3],by simp[h8],by simp[h12],by simp[h20],by simp[h22],hGl,hG0,hG1,hG8⟩
 clear hk hy he hr hd ha hb hn h1 h2 h3 h6 h7 h8 h12 h17 h18 h19 h20
 obtain⟨k,y,e,r,d,hk,hy,he,hr,hd,ha,hb,hn,rfl,h1,h2,h3,h8,h12,h20,h22,hGl,hG0,hG1,hG8⟩:=hΦ
 refine W_spl (Φ:=fun ρ D G=>∃ (c:List UInt64) (p st:Nat),c.length=k+1∧oddL c=true∧D=[]∧lk ρ 1=LU a∧lk ρ 2=LU b∧lk ρ 8=.ptr 0 0∧lk ρ 12=.ptr 1 0∧lk ρ 20=.i d∧lk ρ 22=.ptr 8 0∧lk ρ 28=.dy p 0∧9≤p∧9≤G.length ∧
   G[0]?=some (.cells [.i (k+1)] 1)∧G[1]?=some (.cells [.i y] 1)∧G[8]?=some (.cells (lpV ((64:Nat):Int) (bsI k y) (progI k y e r d).flat) 1)∧G[p]?=some (.dyn (c.map .u) (k+1) 1 0 st)) 1 _ rfl (fun NX hNX=>?_) (fun ρ D G hΦ=>?_)
 ·rw[show 1+(k:Int)=k+1 by omega] at hG0
  have l0:0 < G.length:=by omega
  have l1:1 < G.length:=by omega
  have p0:∀ x:List LObj,(G++x)[0]?=some _:=fun x=>(oldP l0).trans hG0
  have p1:∀ x:List LObj,(G++x)[1]?=some _:=fun x=>(oldP l1).trans hG1
  simp[c_law23_MontgomeryInto,spl,h1,h2,h3,h8,h12,h20,h22,↓p0,↓p1]
  have q0:=p0 [LObj.dyn [.u 7] 1 1 0 0]
  have q1:=p1 [LObj.dyn [.u 7] 1 1 0 0]
  have q8:(G++[LObj.dyn [.u 7] 1 1 0 0])[8]?=_:=(oldP (by omega)).trans hG8
  have qz:(G++[LObj.dyn [.u 7] 1 1 0 0])[G.length]?=_:=List.getElem?_concat_length
  have ql:(G++[LObj.dyn [.u 7] 1 1 0 0]).length=G.length+1:=by simp
  generalize G++[LObj.dyn [.u 7] 1 1 0 0]=G2 at *
  generalize G.length=z at *
  refine CallL_S (kit_Own_ok n (by omega)) (by simp[LU]) ?_
  have r0:(G2++[RU n])[0]?=_:=(oldP (by omega)).trans q0
  have r1:(G2++[RU n])[1]?=_:=(oldP (by omega)).trans q1
  have r8:(G2++[RU n])[8]?=_:=(oldP (by omega)).trans q8
  have rz:(G2++[RU n])[z]?=_:=(oldP (by omega)).trans qz
  have ry:(G2++[RU n])[z+1]?=some (RU n):=by rw[←ql]; exact List.getElem?_concat_length
  have rl:(G2++[RU n]).length=z+2:=by simp[ql]
  rw[ql]
  generalize G2++[RU n]=G3 at *
  simp[r0,r1,ry,rz,q0,qz,h8,RU]
  refine⟨by omega,?_⟩
  have w0:(G3.set (z+1) (LObj.dyn (n.map .u++[.u 7]) (n.length+1) 1 1 1))[0]?=_:=(List.getElem?_set_ne (by omega)).trans r0
  have w1:(G3.set (z+1) (LObj.dyn (n.map .u++[.u 7]) (n.length+1) 1 1 1))[1]?=_:=(List.getElem?_set_ne (by omega)).trans r1
  have w8:(G3.set (z+1) (LObj.dyn (n.map .u++[.u 7]) (n.length+1) 1 1 1))[8]?=_:=(List.getElem?_set_ne (by omega)).trans r8
  have wy:(G3.set (z+1) (LObj.dyn (n.map .u++[.u 7]) (n.length+1) 1 1 1))[z+1]?=some (.dyn ((n++[7]).map .u) (n++[7]).length 1 1 1):=by rw[List.getElem?_set_self (by omega)]; simp
  have wl:(G3.set (z+1) (LObj.dyn (n.map .u++[.u 7]) (n.length+1) 1 1 1)).length=z+2:=by simp[rl]
  generalize G3.set (z+1) (LObj.dyn (n.map .u++[.u 7]) (n.length+1) 1 1 1)=G4 at *
  refine CallL_S (kit_Fill_ok (n++[7]) (k+1) (by omega) (by simp; omega) (by simp)) ⟨_,_,rfl,⟨_,_,_,_,rfl,wy,dat_us _⟩,_,_,rfl,⟨rfl,rfl⟩,rfl⟩ ?_
  have v0:(G4++[RU (fillU (n++[7]) (k+1))])[0]?=_:=(oldP (by omega)).trans w0
  have v1:(G4++[RU (fillU (n++[7]) (k+1))])[1]?=_:=(oldP (by omega)).trans w1
  have v8:(G4++[RU (fillU (n++[7]) (k+1))])[8]?=_:=(oldP (by omega)).trans w8
  have vx:(G4++[RU (fillU (n++[7]) (k+1))])[z+2]?=some (.dyn ((fillU (n++[7]) (k+1)).map .u) (k+1) 1 0 0):=by rw[←wl,List.getElem?_concat_length,RU,fillU_len]
  have vl':(G4++[RU (fillU (n++[7]) (k+1))]).length=z+3:=by simp[wl]
  have hfl:=fillU_len (n++[7]) (k+1)
  rw[wl]
  generalize G4++[RU (fillU (n++[7]) (k+1))]=G5 at *
  generalize fillU (n++[7]) (k+1)=c at *
  have hc0:0 < c.length:=by omega
  simp[v0,v1,vx,h8,h12,hfl]
  refine hNX _ _ _ ⟨orU c[0] 1::c.tail,z+2,1,?_,?_,rfl,by simp[h1],by simp[h2],by simp[h8],by simp[h12],by simp[h20],by simp[h22],by simp,by omega,by simp; omega,?_,?_,?_,?_⟩
  ·simp; omega
  ·exact odd_or _ _
  ·rw[List.getElem?_set_ne (by omega)]; exact v0
  ·rw[List.getElem?_set_ne (by omega)]; exact v1
  ·rw[List.getElem?_set_ne (by omega)]; exact v8
  ·rw[List.getElem?_set_self (by omega)]; simp
 clear h1 h2 h3 h8 h12 h20 h22 hGl hG0 hG1 hG8
 obtain⟨c,p,st,hcl,hco,rfl,h1,h2,h8,h12,h20,h22,h28,hp9,hGl,hG0,hG1,hG8,hGp⟩:=hΦ
 refine W_spl (Φ:=fun ρ D G=>∃ (q sq:Nat),D=[]∧lk ρ 1=LU a∧lk ρ 2=LU b∧lk ρ 8=.ptr 0 0∧lk ρ 12=.ptr 1 0∧lk ρ 20=.i d∧lk ρ 22=.ptr 8 0∧lk ρ 28=.dy p 0∧lk ρ 29=.dy q 0∧9≤q∧p≠q∧9≤G.length ∧
   G[0]?=some (.cells [.i (k+1)] 1)∧G[1]?=some (.cells [.i y] 1)∧G[8]?=some (.cells (lpV ((64:Nat):Int) (bsI k y) (progI k y e r d).flat) 1)∧G[p]?=some (.dyn (c.map .u) (k+1) 1 0 st)∧G[q]?=some (.dyn ((List.replicate (4 * (k+1)+y) (0:UInt64)).map .u) (4 * (k+1)+y) 1 0 sq)) 0 _ rfl (fun NX hNX=>?_) (fun ρ D G hΦ=>?_)
 ·have lp:=(List.getElem?_eq_some_iff.1 hGp).1
  have hrep:(4 * ((k:Int)+1)+y).toNat=4 * (k+1)+y:=by omega
  simp[c_law23_MontgomeryInto,spl,h8,h12,hG0,hG1,hrep]
  repeat (refine⟨by omega,?_⟩)
  refine hNX _ _ _ ⟨G.length,0,rfl,by simp[h1],by simp[h2],by simp[h8],by simp[h12],by simp[h20],by simp[h22],by simp[h28],by simp,by omega,by omega,by simp; omega,(oldP (by omega)).trans hG0,(oldP (by omega)).trans hG1,(oldP (by omega)).trans hG8,(oldP (by omega)).trans hGp,?_⟩
  rw[List.getElem?_concat_length,repUs]
 clear h1 h2 h8 h12 h20 h22 h28 hGl hG0 hG1 hG8 hGp
 obtain⟨q,sq,rfl,h1,h2,h8,h12,h20,h22,h28,h29,hq9,hpq,hGl,hG0,hG1,hG8,hGp,hGq⟩:=hΦ
 have hcv:0 < val c:=Nat.pos_of_ne_zero (oddL_ne hco)
 refine W_spl (Φ:=fun ρ D G=>∃ X:List UInt64,val X < val c∧X.length≤k+1∧D=[]∧lk ρ 2=LU b∧lk ρ 8=.ptr 0 0∧lk ρ 12=.ptr 1 0∧lk ρ 20=.i d∧lk ρ 22=.ptr 8 0∧lk ρ 28=.dy p 0∧lk ρ 29=.dy q 0∧lk ρ 31=LU X∧9≤G.length ∧
   G[0]?=some (.cells [.i (k+1)] 1)∧G[1]?=some (.cells [.i y] 1)∧G[8]?=some (.cells (lpV ((64:Nat):Int) (bsI k y) (progI k y e r d).flat) 1)∧G[p]?=some (.dyn (c.map .u) (k+1) 1 0 st)∧G[q]?=some (.dyn ((List.replicate (4 * (k+1)+y) (0:UInt64)).map .u) (4 * (k+1)+y) 1 0 sq)) 0 _ rfl (fun NX hNX=>?_) (fun ρ D G hΦ=>?_)
 ·have lp:=(List.getElem?_eq_some_iff.1 hGp).1
  have lq:=(List.getElem?_eq_some_iff.1 hGq).1
  have p0:∀ x:List LObj,(G++x)[0]?=some _:=fun x=>(oldP (by omega)).trans hG0
  simp[c_law23_MontgomeryInto,spl,h1,h8,h12,h28,↓p0]
  have q0:=p0 [LObj.dyn [.u 3] 1 1 0 0]
  have q1:(G++[LObj.dyn [.u 3] 1 1 0 0])[1]?=_:=(oldP (by omega)).trans hG1
  have q8:(G++[LObj.dyn [.u 3] 1 1 0 0])[8]?=_:=(oldP (by omega)).trans hG8
  have qp:(G++[LObj.dyn [.u 3] 1 1 0 0])[p]?=_:=(oldP (by omega)).trans hGp
  have qq:(G++[LObj.dyn [.u 3] 1 1 0 0])[q]?=_:=(oldP (by omega)).trans hGq
  have qz:(G++[LObj.dyn [.u 3] 1 1 0 0])[G.length]?=_:=List.getElem?_concat_length
  have ql:(G++[LObj.dyn [.u 3] 1 1 0 0]).length=G.length+1:=by simp
  generalize G++[LObj.dyn [.u 3] 1 1 0 0]=G2 at *
  generalize G.length=z at *
  refine CallL_S (kit_Own_ok a (by omega)) (by simp[LU]) ?_
  have r0:(G2++[RU a])[0]?=_:=(oldP (by omega)).trans q0
  have r1:(G2++[RU a])[1]?=_:=(oldP (by omega)).trans q1
  have r8:(G2++[RU a])[8]?=_:=(oldP (by omega)).trans q8
  have rp:(G2++[RU a])[p]?=_:=(oldP (by omega)).trans qp
  have rq:(G2++[RU a])[q]?=_:=(oldP (by omega)).trans qq
  have rz:(G2++[RU a])[z]?=_:=(oldP (by omega)).trans qz
  have ry:(G2++[RU a])[z+1]?=some (RU a):=by rw[←ql]; exact List.getElem?_concat_length
  have rl:(G2++[RU a]).length=z+2:=by simp[ql]
  rw[ql]
  generalize G2++[RU a]=G3 at *
  simp[r0,r1,ry,rz,q0,qz,h8,h28,RU]
  refine⟨by omega,?_⟩
  have w0:(G3.set (z+1) (LObj.dyn (a.map .u++[.u 3]) (a.length+1) 1 1 1))[0]?=_:=(List.getElem?_set_ne (by omega)).trans r0
  have w1:(G3.set (z+1) (LObj.dyn (a.map .u++[.u 3]) (a.length+1) 1 1 1))[1]?=_:=(List.getElem?_set_ne (by omega)).trans r1
  have w8:(G3.set (z+1) (LObj.dyn (a.map .u++[.u 3]) (a.length+1) 1 1 1))[8]?=_:=(List.getElem?_set_ne (by omega)).trans r8
  have wp':(G3.set (z+1) (LObj.dyn (a.map .u++[.u 3]) (a.length+1) 1 1 1))[p]?=_:=(List.getElem?_set_ne (by omega)).trans rp
  have wq:(G3.set (z+1) (LObj.dyn (a.map .u++[.u 3]) (a.length+1) 1 1 1))[q]?=_:=(List.getElem?_set_ne (by omega)).trans rq
  have wy:(G3.set (z+1) (LObj.dyn (a.map .u++[.u 3]) (a.length+1) 1 1 1))[z+1]?=some (.dyn ((a++[3]).map .u) (a++[3]).length 1 1 1):=by rw[List.getElem?_set_self (by omega)]; simp
  have wl:(G3.set (z+1) (LObj.dyn (a.map .u++[.u 3]) (a.length+1) 1 1 1)).length=z+2:=by simp[rl]
  generalize G3.set (z+1) (LObj.dyn (a.map .u++[.u 3]) (a.length+1) 1 1 1)=G4 at *
  refine CallL_S (kit_Fill_ok (a++[3]) (k+1) (by omega) (by simp; omega) (by simp)) ⟨_,_,rfl,⟨_,_,_,_,rfl,wy,dat_us _⟩,_,_,rfl,⟨rfl,rfl⟩,rfl⟩ ?_
  have v0:(G4++[RU (fillU (a++[3]) (k+1))])[0]?=_:=(oldP (by omega)).trans w0
  have v1:(G4++[RU (fillU (a++[3]) (k+1))])[1]?=_:=(oldP (by omega)).trans w1
  have v8:(G4++[RU (fillU (a++[3]) (k+1))])[8]?=_:=(oldP (by omega)).trans w8
  have vp:(G4++[RU (fillU (a++[3]) (k+1))])[p]?=_:=(oldP (by omega)).trans wp'
  have vq:(G4++[RU (fillU (a++[3]) (k+1))])[q]?=_:=(oldP (by omega)).trans wq
  have vx:(G4++[RU (fillU (a++[3]) (k+1))])[z+2]?=some (RU (fillU (a++[3]) (k+1))):=by rw[←wl]; exact List.getElem?_concat_length
  have vl':(G4++[RU (fillU (a++[3]) (k+1))]).length=z+3:=by simp[wl]
  have hfl:=fillU_len (a++[3]) (k+1)
  rw[wl]
  generalize G4++[RU (fillU (a++[3]) (k+1))]=G5 at *
  generalize fillU (a++[3]) (k+1)=F at *
  simp[h28]
  have hD:=ref02_Div_ok F c (by omega) (by omega)
  rw[if_neg (by omega),if_neg (by omega),if_neg (by omega)] at hD
  refine CallL_F hD ⟨_,_,rfl,⟨_,_,_,_,rfl,by rw[vx,RU],dat_us _⟩,_,_,rfl,⟨_,_,_,_,rfl,by rw[vp,hcl],dat_us _⟩,rfl⟩ ?_
  simp[RU]
  refine hNX _ _ _ ⟨toL (val F % val c),?_,?_,rfl,by simp[h2],by simp[h8],by simp[h12],by simp[h20],by simp[h22],by simp[h28],by simp[h29],by simp[LU],by omega,v0,v1,v8,vp,vq⟩
  ·rw[val_toL]; exact Nat.mod_lt _ hcv
  ·exact hcl ▸ toL_len_lt (Nat.mod_lt _ hcv)
 clear h1 h2 h8 h12 h20 h22 h28 h29 hGl hG0 hG1 hG8 hGp hGq
 obtain⟨A,hA,hAl,rfl,h2,h8,h12,h20,h22,h28,h29,h31,hGl,hG0,hG1,hG8,hGp,hGq⟩:=hΦ
 refine W_spl (Φ:=fun ρ D G=>∃ X:List UInt64,val X < val c∧X.length≤k+1∧D=[]∧lk ρ 8=.ptr 0 0∧lk ρ 12=.ptr 1 0∧lk ρ 20=.i d∧lk ρ 22=.ptr 8 0∧lk ρ 28=.dy p 0∧lk ρ 29=.dy q 0∧lk ρ 31=LU A∧lk ρ 34=LU X∧9≤G.length ∧
   G[0]?=some (.cells [.i (k+1)] 1)∧G[1]?=some (.cells [.i y] 1)∧G[8]?=some (.cells (lpV ((64:Nat):Int) (bsI k y) (progI k y e r d).flat) 1)∧G[p]?=some (.dyn (c.map .u) (k+1) 1 0 st)∧G[q]?=some (.dyn ((List.replicate (4 * (k+1)+y) (0:UInt64)).map .u) (4 * (k+1)+y) 1 0 sq)) 0 _ rfl (fun NX hNX=>?_) (fun ρ D G hΦ=>?_)
 ·have lp:=(List.getElem?_eq_some_iff.1 hGp).1
  have lq:=(List.getElem?_eq_some_iff.1 hGq).1
  have p0:∀ x:List LObj,(G++x)[0]?=some _:=fun x=>(oldP (by omega)).trans hG0
  simp[c_law23_MontgomeryInto,spl,h2,h8,h12,h28,↓p0]
  have q0:=p0 [LObj.dyn [.u 5] 1 1 0 0]
  have q1:(G++[LObj.dyn [.u 5] 1 1 0 0])[1]?=_:=(oldP (by omega)).trans hG1
  have q8:(G++[LObj.dyn [.u 5] 1 1 0 0])[8]?=_:=(oldP (by omega)).trans hG8
  have qp:(G++[LObj.dyn [.u 5] 1 1 0 0])[p]?=_:=(oldP (by omega)).trans hGp
  have qq:(G++[LObj.dyn [.u 5] 1 1 0 0])[q]?=_:=(oldP (by omega)).trans hGq
  have qz:(G++[LObj.dyn [.u 5] 1 1 0 0])[G.length]?=_:=List.getElem?_concat_length
  have ql:(G++[LObj.dyn [.u 5] 1 1 0 0]).length=G.length+1:=by simp
  generalize G++[LObj.dyn [.u 5] 1 1 0 0]=G2 at *
  generalize G.length=z at *
  refine CallL_S (kit_Own_ok b (by omega)) (by simp[LU]) ?_
  have r0:(G2++[RU b])[0]?=_:=(oldP (by omega)).trans q0
  have r1:(G2++[RU b])[1]?=_:=(oldP (by omega)).trans q1
  have r8:(G2++[RU b])[8]?=_:=(oldP (by omega)).trans q8
  have rp:(G2++[RU b])[p]?=_:=(oldP (by omega)).trans qp
  have rq:(G2++[RU b])[q]?=_:=(oldP (by omega)).trans qq
  have rz:(G2++[RU b])[z]?=_:=(oldP (by omega)).trans qz
  have ry:(G2++[RU b])[z+1]?=some (RU b):=by rw[←ql]; exact List.getElem?_concat_length
  have rl:(G2++[RU b]).length=z+2:=by simp[ql]
  rw[ql]
  generalize G2++[RU b]=G3 at *
  simp[r0,r1,ry,rz,q0,qz,h8,h28,RU]
  refine⟨by omega,?_⟩
  have w0:(G3.set (z+1) (LObj.dyn (b.map .u++[.u 5]) (b.length+1) 1 1 1))[0]?=_:=(List.getElem?_set_ne (by omega)).trans r0
  have w1:(G3.set (z+1) (LObj.dyn (b.map .u++[.u 5]) (b.length+1) 1 1 1))[1]?=_:=(List.getElem?_set_ne (by omega)).trans r1
  have w8:(G3.set (z+1) (LObj.dyn (b.map .u++[.u 5]) (b.length+1) 1 1 1))[8]?=_:=(List.getElem?_set_ne (by omega)).trans r8
  have wp':(G3.set (z+1) (LObj.dyn (b.map .u++[.u 5]) (b.length+1) 1 1 1))[p]?=_:=(List.getElem?_set_ne (by omega)).trans rp
  have wq:(G3.set (z+1) (LObj.dyn (b.map .u++[.u 5]) (b.length+1) 1 1 1))[q]?=_:=(List.getElem?_set_ne (by omega)).trans rq
  have wy:(G3.set (z+1) (LObj.dyn (b.map .u++[.u 5]) (b.length+1) 1 1 1))[z+1]?=some (.dyn ((b++[5]).map .u) (b++[5]).length 1 1 1):=by rw[List.getElem?_set_self (by omega)]; simp
  have wl:(G3.set (z+1) (LObj.dyn (b.map .u++[.u 5]) (b.length+1) 1 1 1)).length=z+2:=by simp[rl]
  generalize G3.set (z+1) (LObj.dyn (b.map .u++[.u 5]) (b.length+1) 1 1 1)=G4 at *
  refine CallL_S (kit_Fill_ok (b++[5]) (k+1) (by omega) (by simp; omega) (by simp)) ⟨_,_,rfl,⟨_,_,_,_,rfl,wy,dat_us _⟩,_,_,rfl,⟨rfl,rfl⟩,rfl⟩ ?_
  have v0:(G4++[RU (fillU (b++[5]) (k+1))])[0]?=_:=(oldP (by omega)).trans w0
  have v1:(G4++[RU (fillU (b++[5]) (k+1))])[1]?=_:=(oldP (by omega)).trans w1
  have v8:(G4++[RU (fillU (b++[5]) (k+1))])[8]?=_:=(oldP (by omega)).trans w8
  have vp:(G4++[RU (fillU (b++[5]) (k+1))])[p]?=_:=(oldP (by omega)).trans wp'
  have vq:(G4++[RU (fillU (b++[5]) (k+1))])[q]?=_:=(oldP (by omega)).trans wq
  have vx:(G4++[RU (fillU (b++[5]) (k+1))])[z+2]?=some (RU (fillU (b++[5]) (k+1))):=by rw[←wl]; exact List.getElem?_concat_length
  have vl':(G4++[RU (fillU (b++[5]) (k+1))]).length=z+3:=by simp[wl]
  have hfl:=fillU_len (b++[5]) (k+1)
  rw[wl]
  generalize G4++[RU (fillU (b++[5]) (k+1))]=G5 at *
  generalize fillU (b++[5]) (k+1)=F at *
  simp[h28]
  have hD:=ref02_Div_ok F c (by omega) (by omega)
  rw[if_neg (by omega),if_neg (by omega),if_neg (by omega)] at hD
  refine CallL_F hD ⟨_,_,rfl,⟨_,_,_,_,rfl,by rw[vx,RU],dat_us _⟩,_,_,rfl,⟨_,_,_,_,rfl,by rw[vp,hcl],dat_us _⟩,rfl⟩ ?_
  simp[RU]
  refine hNX _ _ _ ⟨toL (val F % val c),?_,?_,rfl,by simp[h8],by simp[h12],by simp[h20],by simp[h22],by simp[h28],by simp[h29],by simp[h31],by simp[LU],by omega,v0,v1,v8,vp,vq⟩
  ·rw[val_toL]; exact Nat.mod_lt _ hcv
  ·exact hcl ▸ toL_len_lt (Nat.mod_lt _ hcv)
 clear h2 h8 h12 h20 h22 h28 h29 h31 hGl hG0 hG1 hG8 hGp hGq
 obtain⟨B,hB,hBl,rfl,h8,h12,h20,h22,h28,h29,h31,h34,hGl,hG0,hG1,hG8,hGp,hGq⟩:=hΦ
 generalize hrow:List.replicate (4 * (k+1)+y) (0:UInt64)=row at *
 have hrl:row.length=4 * (k+1)+y:=by rw[←hrow]; simp
 refine W_spl (Φ:=fun ρ D G=>∃ sq:Nat,D=[]∧lk ρ 8=.ptr 0 0∧lk ρ 12=.ptr 1 0∧lk ρ 20=.i d∧lk ρ 22=.ptr 8 0∧lk ρ 28=.dy p 0∧lk ρ 29=.dy q 0∧lk ρ 31=LU A∧lk ρ 34=LU B∧9≤G.length ∧
   G[0]?=some (.cells [.i (k+1)] 1)∧G[1]?=some (.cells [.i y] 1)∧G[8]?=some (.cells (lpV ((64:Nat):Int) (bsI k y) (progI k y e r d).flat) 1)∧G[p]?=some (.dyn (c.map .u) (k+1) 1 0 st)∧G[q]?=some (.dyn ((copyU row (y) A).map .u) (4 * (k+1)+y) 1 0 sq)) 0 _ rfl (fun NX hNX=>?_) (fun ρ D G hΦ=>?_)
 ·have lq:=(List.getElem?_eq_some_iff.1 hGq).1
  have hoff:(((y:Nat):Int)).toNat=y:=by omega
  simp[c_law23_MontgomeryInto,spl,h8,h12,h28,h29,h31,h34,hG0,hG1,hGp,hGq,LU,hoff]
  rw[lay_copy (by omega)]
  refine⟨by omega,?_⟩
  refine hNX _ _ _ ⟨sq+1,rfl,by simp[h8],by simp[h12],by simp[h20],by simp[h22],by simp[h28],by simp[h29],by simp[h31,LU],by simp[h34,LU],by simp; omega,?_,?_,?_,?_,List.getElem?_set_self lq⟩
  ·rw[List.getElem?_set_ne (by omega)]; exact hG0
  ·rw[List.getElem?_set_ne (by omega)]; exact hG1
  ·rw[List.getElem?_set_ne (by omega)]; exact hG8
  ·rw[List.getElem?_set_ne (by omega)]; exact hGp
 clear h8 h12 h20 h22 h28 h29 h31 h34 hGl hG0 hG1 hG8 hGp hGq
 obtain⟨sq,rfl,h8,h12,h20,h22,h28,h29,h31,h34,hGl,hG0,hG1,hG8,hGp,hGq⟩:=hΦ
 have hrl1:=copyU_len (l:=row) (o:=y) (A:=A) (by omega)
 generalize hrow1:copyU row y A=row1 at *
 refine W_spl (Φ:=fun ρ D G=>∃ sq:Nat,D=[]∧lk ρ 8=.ptr 0 0∧lk ρ 12=.ptr 1 0∧lk ρ 20=.i d∧lk ρ 22=.ptr 8 0∧lk ρ 28=.dy p 0∧lk ρ 29=.dy q 0∧lk ρ 31=LU A∧lk ρ 34=LU B∧9≤G.length ∧
   G[0]?=some (.cells [.i (k+1)] 1)∧G[1]?=some (.cells [.i y] 1)∧G[8]?=some (.cells (lpV ((64:Nat):Int) (bsI k y) (progI k y e r d).flat) 1)∧G[p]?=some (.dyn (c.map .u) (k+1) 1 0 st)∧G[q]?=some (.dyn ((copyU row1 (y+(k+1)) B).map .u) (4 * (k+1)+y) 1 0 sq)) 0 _ rfl (fun NX hNX=>?_) (fun ρ D G hΦ=>?_)
 ·have lq:=(List.getElem?_eq_some_iff.1 hGq).1
  have hoff:(((y:Nat):Int)+(k+1)).toNat=y+(k+1):=by omega
  simp[c_law23_MontgomeryInto,spl,h8,h12,h28,h29,h31,h34,hG0,hG1,hGp,hGq,LU,hoff]
  rw[lay_copy (by omega)]
  refine⟨by omega,by omega,by omega,by omega,?_⟩
  refine hNX _ _ _ ⟨sq+1,rfl,by simp[h8],by simp[h12],by simp[h20],by simp[h22],by simp[h28],by simp[h29],by simp[h31,LU],by simp[h34,LU],by simp; omega,?_,?_,?_,?_,List.getElem?_set_self lq⟩
  ·rw[List.getElem?_set_ne (by omega)]; exact hG0
  ·rw[List.getElem?_set_ne (by omega)]; exact hG1
  ·rw[List.getElem?_set_ne (by omega)]; exact hG8
  ·rw[List.getElem?_set_ne (by omega)]; exact hGp
 clear h8 h12 h20 h22 h28 h29 h31 h34 hGl hG0 hG1 hG8 hGp hGq
 obtain⟨sq,rfl,h8,h12,h20,h22,h28,h29,h31,h34,hGl,hG0,hG1,hG8,hGp,hGq⟩:=hΦ
 have hrl2:=copyU_len (l:=row1) (o:=y+(k+1)) (A:=B) (by omega)
 generalize hrow2:copyU row1 (y+(k+1)) B=row2 at *
 refine W_spl (Φ:=fun ρ D G=>∃ sq:Nat,D=[]∧lk ρ 8=.ptr 0 0∧lk ρ 12=.ptr 1 0∧lk ρ 20=.i d∧lk ρ 22=.ptr 8 0∧lk ρ 28=.dy p 0∧lk ρ 29=.dy q 0∧lk ρ 31=LU A∧lk ρ 34=LU B∧9≤G.length ∧
   G[0]?=some (.cells [.i (k+1)] 1)∧G[1]?=some (.cells [.i y] 1)∧G[8]?=some (.cells (lpV ((64:Nat):Int) (bsI k y) (progI k y e r d).flat) 1)∧G[p]?=some (.dyn (c.map .u) (k+1) 1 0 st)∧G[q]?=some (.dyn ((copyU row2 (y+2 * (k+1)) c).map .u) (4 * (k+1)+y) 1 0 sq)) 0 _ rfl (fun NX hNX=>?_) (fun ρ D G hΦ=>?_)
 ·have lq:=(List.getElem?_eq_some_iff.1 hGq).1
  have hoff:(((y:Nat):Int)+2 * (k+1)).toNat=y+2 * (k+1):=by omega
  simp[c_law23_MontgomeryInto,spl,h8,h12,h28,h29,h31,h34,hG0,hG1,hGp,hGq,LU,hoff]
  have lc:=lay_copy (l:=row2) (A:=c) (o:=y+2 * (k+1)) (m:=4 * (k+1)+y - (y+2 * (k+1))) (by omega)
  rw[hcl] at lc
  rw[lc]
  refine⟨by omega,by omega,by omega,by omega,by omega,?_⟩
  refine hNX _ _ _ ⟨sq+1,rfl,by simp[h8],by simp[h12],by simp[h20],by simp[h22],by simp[h28],by simp[h29],by simp[h31,LU],by simp[h34,LU],by simp; omega,?_,?_,?_,?_,List.getElem?_set_self lq⟩
  ·rw[List.getElem?_set_ne (by omega)]; exact hG0
  ·rw[List.getElem?_set_ne (by omega)]; exact hG1
  ·rw[List.getElem?_set_ne (by omega)]; exact hG8
  ·rw[List.getElem?_set_ne (by omega)]; exact hGp
 clear h8 h12 h20 h22 h28 h29 h31 h34 hGl hG0 hG1 hG8 hGp hGq
 obtain⟨sq,rfl,h8,h12,h20,h22,h28,h29,h31,h34,hGl,hG0,hG1,hG8,hGp,hGq⟩:=hΦ
 have hrl3:=copyU_len (l:=row2) (o:=y+2 * (k+1)) (A:=c) (by omega)
 generalize hrow3:copyU row2 (y+2 * (k+1)) c=row3 at *
 refine W_fz (t:=29) hGq h29 ?_
 refine W_fz (t:=28) (p:=p) (l:=c.map .u) (len:=k+1) (esz:=1) (st:=st) (by rw[List.getElem?_set_ne (by omega)]; exact hGp) (by simp[h28]) ?_
 have f0:((G.set q (.dead (sq+1))).set p (.dead (st+1)))[0]?=_:=(List.getElem?_set_ne (by omega)).trans ((List.getElem?_set_ne (by omega)).trans hG0)
 have f1:((G.set q (.dead (sq+1))).set p (.dead (st+1)))[1]?=_:=(List.getElem?_set_ne (by omega)).trans ((List.getElem?_set_ne (by omega)).trans hG1)
 have f8:((G.set q (.dead (sq+1))).set p (.dead (st+1)))[8]?=_:=(List.getElem?_set_ne (by omega)).trans ((List.getElem?_set_ne (by omega)).trans hG8)
 have fl:9≤((G.set q (.dead (sq+1))).set p (.dead (st+1))).length:=by simp; omega
 generalize (G.set q (.dead (sq+1))).set p (.dead (st+1))=G9 at *
 refine wp_W _ ?_
 have f8':∀ x:List LObj,(G9++x)[8]?=_:=fun x=>(oldP (by omega)).trans f8
 simp[c_law23_MontgomeryInto,spl,h8,h12,h20,h22,h31,h34,f8,↓f8',lpV]
 refine CallL_cells (p:=G9.length) (l':=[.lst (row3.map .u) (4 * (k+1)+y) 1,.lst [] 0 1]) List.getElem?_concat_length (fun c r h=>?_) ?_
 ·cases h with
  | cons e1 e2=>cases e2 with
   | cons e2 e3=>exact .cons e1 (.cons (nil_lst e2) e3)
 refine CallL_fzG (p:=G9.length) (args':=[.agg (lpV ((64:Nat):Int) (bsI k y) (progI k y e r d).flat),LN [row3,[]]]) (List.getElem?_set_self (by simp)) (fun c c' r hle hx ha=>?_) ?_
 ·cases ha with
  | cons e1 es=>cases es with
   | cons e2 es =>
    refine .cons (e1.mono hle) (.cons ?_ (es.mono hle))
    have:=hx _ e2
    have hl3:row3.length=4 * (k+1)+y:=by omega
    simpa [LN,LU,hl3] using this
 obtain⟨hvA,hvB,hvc,hvo⟩:=row_vals hAl hBl hcl hrow hrow1 hrow2 hrow3
 have hodd:row3.getD (y+2 * (k+1)) 0 % 2=1:=by
  rw[hvo]
  unfold oddL at hco
  exact of_decide_eq_true hco
 have d3:d≤3:=by omega
 have hl3:row3.length=4 * (k+1)+y:=by omega
 have hX:rowsB (bsI k y) [row3,[]]=true:=by
  unfold rowsB
  refine decide_eq_true ⟨rfl,fun i hi=>?_⟩
  have hi':i=0∨i=1:=by simp[bsI] at hi; omega
  rcases hi' with rfl | rfl
  ·simp[bsI,gbf,hl3]; omega
  ·simp[bsI,gbf]
 have hex:=progI_ex (row:=row3) (e:=e) (r:=r) hk hy he hd hl3 hodd (by rw[hvA,hvc]; exact hA)
 obtain⟨s',t,hrep,⟨hm,hlt,Q,Q',hq⟩,hV⟩:=Run_tree (progI_chk hk hy he hr d3) (progI_wf hk he) (progI_regs hk he hr) (progI_stp hk he) hX (by simp[bsI]) hex
 refine CallL_V hV (by simp[dats,LV.dat,loC_dats,bfC_dats,lpV]) ?_
 have f0':∀ x:List LObj,(G9++x)[0]?=_:=fun x=>(oldP (by omega)).trans f0
 have f1':∀ x:List LObj,(G9++x)[1]?=_:=fun x=>(oldP (by omega)).trans f1
 simp[h31,h34,h8,↓f0']
 have a0:=f0' [LObj.dead 2]
 have a1:=f1' [LObj.dead 2]
 have al:(G9++[LObj.dead 2]).length=G9.length+1:=by simp
 generalize G9++[LObj.dead 2]=GA at *
 refine CallL_F (ref02_Mul_ok A B (by omega) (by omega)) (bors2 (by simp) (by simp)) ?_
 clear hG0 hG1 hG8 hGp hGq
 have hTl:(toL (val A * val B)).length≤2 * (k+1):=by
  refine toL_length_le ?_
  have h1:=val_bound hAl
  have h2:=val_bound hBl
  have h3:=Nat.mul_lt_mul'' h1 h2
  rw[←Nat.pow_add] at h3
  rw[show 64 * (2 * (k+1))=64 * (k+1)+64 * (k+1) by omega]
  exact h3
 have b0:∀ x:List LObj,(GA++x)[0]?=_:=fun x=>(oldP (by omega)).trans a0
 have b1:∀ x:List LObj,(GA++x)[1]?=_:=fun x=>(oldP (by omega)).trans a1
 simp[h8,↓b0,a0,RU]
 refine CallL_F (ref03_Reduce_ok (toL (val A * val B)) c (k+1) (by omega) (by omega)) (by simp[hcl]) ?_
 have e0:reE c ((k:Int)+1)=0:=by unfold reE; rw[if_pos ⟨hco,by omega,by omega⟩]
 rw[e0]
 rw[hvc] at hlt hq
 rw[hvA,hvB] at hq
 obtain⟨o,o2,hbufs,hol,hoo,hov⟩:=into_out hk hd hl3 hco hrep hm hlt hq
 rw[hbufs]
 simp[RU]
 have hR1:val (reR (toL (val A * val B)) c ((k:Int)+1)) < val c:=by
  unfold reR
  rw[if_pos ⟨hco,by omega,by omega⟩,val_toL]
  exact Nat.mod_lt _ hcv
 have hRl:(reR (toL (val A * val B)) c ((k:Int)+1)).length≤64000:=by
  unfold reR
  rw[if_pos ⟨hco,by omega,by omega⟩]
  have:=toL_len_lt (Nat.mod_lt (val (toL (val A * val B)) * invN (2 ^ (64 * ((k:Int)+1).toNat) % val c) (val c)) hcv)
  omega
 generalize hRR:reR (toL (val A * val B)) c ((k:Int)+1)=R at *
 have hm1:(d:Int) * ((k:Int)+1)=((d * (k+1):Nat):Int):=by simp
 have hm2:((d:Int)+1) * ((k:Int)+1)=((d * (k+1)+(k+1):Nat):Int):=by
  rw[Int.add_mul,hm1]; simp
 have hdk:d * (k+1)≤3 * (k+1):=Nat.mul_le_mul_right _ d3
 generalize hDD:d * (k+1)=D0 at *
 refine loop_nx (fun ρ D G N=>∃ i:Nat,D=[]∧N+i=4 * (k+1)+y∧lk ρ 8=.ptr 0 0∧lk ρ 12=.ptr 1 0∧lk ρ 20=.i d∧lk ρ 29=.lst (row3.map .u) (4 * (k+1)+y) 1∧lk ρ 36=.lst [.lst (o.map .u) o.length 1,.lst (o2.map .u) o2.length 1] 2 1∧lk ρ 39=.lst (R.map .u) R.length 1∧lk ρ 41=.i i∧G=GA) (N:=4 * (k+1)+y)
  ⟨0,rfl,rfl,by simp[h8],by simp[h12],by simp[h20],by simp,by simp,by simp,by simp,rfl⟩ ?_
 clear h8 h12 h20 h22 h31 h34
 rintro N ρ D G ⟨i,rfl,hN,h8,h12,h20,h29,h36,h39,h41,rfl⟩ Nx hNx
 have nx:N≠0→∀ (ρ':LEnv),lk ρ' 8=.ptr 0 0→lk ρ' 12=.ptr 1 0→lk ρ' 20=.i d→lk ρ' 29=.lst (row3.map .u) (4 * (k+1)+y) 1→lk ρ' 36=.lst [.lst (o.map .u) o.length 1,.lst (o2.map .u) o2.length 1] 2 1→lk ρ' 39=.lst (R.map .u) R.length 1→lk ρ' 41=.i ((i:Int)+1)→Nx ρ' [] G:=fun hN0 ρ' e8 e12 e20 e29 e36 e39 e41 =>
  hNx _ _ _ ⟨N - 1,by omega,i+1,rfl,by omega,e8,e12,e20,e29,e36,e39,by rw[e41]; simp,rfl⟩
 by_cases g:i < 4 * (k+1)+y
 ·have g1:(i:Int) < 4 * (k+1)+y:=by omega
  have l1:i < o.length:=by omega
  have l2:i < row3.length:=by omega
  by_cases q1:y+D0≤i
  ·have q1':(y:Int)+(D0:Nat)≤i:=by omega
   by_cases q2:i < y+D0+(k+1)
   ·have q2':(i:Int) < y+((D0:Int)+(k+1)):=by omega
    simp[h8,h12,h20,h29,h36,h41,g,g1,a0,a1,hm1,hm2,q1',q2']
    repeat (refine⟨by omega,?_⟩)
    exact nx (by omega) _ (by simp[h8]) (by simp[h12]) (by simp[h20]) (by simp[h29]) (by simp[h36]) (by simp[h39]) (by simp)
   ·have q2':¬ (i:Int) < y+((D0:Int)+(k+1)):=by omega
    have ho:o[i]?.getD 0=row3[i]?.getD 0:=by simpa using hoo i g (fun q=>q2 q.2)
    simp[h8,h12,h20,h29,h36,h41,g,g1,a0,a1,hm1,hm2,q1',q2',ho]
    repeat (refine⟨by omega,?_⟩)
    exact nx (by omega) _ (by simp[h8]) (by simp[h12]) (by simp[h20]) (by simp[h29]) (by simp[h36]) (by simp[h39]) (by simp)
  ·have q1':¬ (y:Int)+(D0:Nat)≤i:=by omega
   have ho:o[i]?.getD 0=row3[i]?.getD 0:=by simpa using hoo i g (fun q=>q1 q.1)
   simp[h8,h12,h20,h29,h36,h41,g,g1,a0,a1,hm1,hm2,q1',ho]
   repeat (refine⟨by omega,?_⟩)
   exact nx (by omega) _ (by simp[h8]) (by simp[h12]) (by simp[h20]) (by simp[h29]) (by simp[h36]) (by simp[h39]) (by simp)
 ·have g1:¬ (i:Int) < 4 * (k+1)+y:=by omega
  have t1:((y:Int)+D0).toNat=y+D0:=by omega
  have t2:((y:Int)+((D0:Int)+(k+1))).toNat=y+D0+(k+1):=by omega
  simp[h8,h12,h20,h29,h36,h39,h41,g,g1,a0,a1,hm1,hm2,t1,t2]
  refine⟨by omega,by omega,by omega,by omega,by omega,by omega,by omega,by omega,?_⟩
  have hsl:((o.drop (y+D0)).take (k+1)).length=k+1:=by rw[List.length_take,List.length_drop]; omega
  refine CallL_F (kit_Natural_ok ((o.drop (y+D0)).take (k+1)) R (by omega) (by omega)) (bors2 ?_ (by simp)) ?_
  ·have hLU:LU ((o.drop (y+D0)).take (k+1))=.lst (((o.drop (y+D0)).take (k+1)).map .u) (k+1) 1:=by rw[LU,hsl]
   have hda:dats (((o.drop (y+D0)).take (k+1)).map .u)=true:=dat_us _
   rw[List.map_take,List.map_drop] at hda
   rw[hLU,List.map_take,List.map_drop]
   simp[hda]
  rw[hov]
  simp
end Go.Proofs.YtodjkjimaheggaaGreat
