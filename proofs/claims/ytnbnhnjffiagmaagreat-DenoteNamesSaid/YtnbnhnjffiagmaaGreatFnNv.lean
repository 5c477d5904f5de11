/- DenoteNames, walked. -/
import Derived.Test.YtnbnhnjffiagmaaGreatFnNu
import Derived.Test.YtnbnhnjffiagmaaGreatFnNt
import Derived.Test.YtnbnhnjffiagmaaGreatSvG3
namespace Go.Proofs.YtnbnhnjffiagmaaGreat
open Go.Sv
set_option linter.unusedSimpArgs false
set_option maxRecDepth 10000
def c_law20_DenoteNames:LC:=(.seq (.ops [.z 0 (.move (.c (.bool false)))]) (.seq (.seq (.ops [.z 15 (.callV (.c (.fn (.func 9) [] [])) []),.z 16 (.un .not (.t 15))]) (.cond (.t 16) (.seq (.ops [.z 0 (.move (.c (.bool false)))]) .ret) .skip)) (.seq (.ops [.z 17 (.callV (.c (.fn (.func 10) [] [])) []),.z 1 (.alloc [.nilSl,.nilSl,.nilSl]),⟨none,none,.store 3 (.t 1) (.t 17)⟩]) (.seq (.ops [.z 18 (.build [(.i 0),(.i 0),(.i 0),(.i 0),(.i 0),(.i 0),(.u 0)] [(0,1,.c (.i 17)),(1,1,.c (.i (-1))),(2,1,.c (.i (-1))),(3,1,.c (.i 0)),(4,1,.c (.i (-1))),(5,1,.c (.i (-1))),(6,1,.c (.u 1))]),.z 19 (.buildSl 7 1 [(.i 0),(.i 0),(.i 0),(.i 0),(.i 0),(.i 0),(.u 0)] [(0,7,.t 18)]),.f 20 2 1,⟨none,none,.store 1 (.t 20) (.t 19)⟩]) (.seq (.ops [.z 22 (.loadN 3 (.t 1)),.z 23 (.buildSl 1 1 [(.u 0)] [(0,1,.c (.u 2))]),.z 24 (.buildSl 1 1 [.nilSl] [(0,1,.t 23)]),.z 25 (.callV (.c (.fn (.func 11) [] [])) [.t 22,.t 24]),.m 21 25,.z 26 (.extract 0 (.t 21)),.z 27 (.extract 1 (.t 21)),.m 2 26,.m 3 27]) (.seq (.ops [.z 29 (.loadN 3 (.t 1)),.z 30 (.buildSl 1 3 [(.u 0),(.u 0),(.u 0)] [(0,1,.c (.u 1)),(1,1,.c (.u 1)),(2,1,.c (.u 1))]),.z 31 (.buildSl 1 1 [.nilSl] [(0,1,.t 30)]),.z 32 (.callV (.c (.fn (.func 11) [] [])) [.t 29,.t 31]),.m 28 32,.z 33 (.extract 0 (.t 28)),.z 34 (.extract 1 (.t 28)),.m 4 33,.m 5 34]) (.seq (.ops [.z 36 (.loadN 3 (.t 1)),.z 37 (.callV (.c (.fn (.func 11) [] [])) [.t 36,(.c .nilSl)]),.m 35 37,.z 38 (.extract 0 (.t 35)),.z 39 (.extract 1 (.t 35)),.m 6 38,.m 7 39]) (.seq (.ops [.z 41 (.callV (.c (.fn (.func 13) [] [])) [(.c (.i 9)),.c (.i 3),.c (.i 0),.c (.i (-1)),.c (.i 2),.c (.u 0)]),.z 42 (.callV (.c (.fn (.func 12) [] [])) [.t 41,.c (.u 5),.c (.u 0),.c (.u 0)]),.m 40 42,.z 43 (.extract 0 (.t 40)),.z 44 (.extract 1 (.t 40)),.m 8 43,.m 9 44]) (.seq (.ops [.z 45 (.callV (.c (.fn (.func 14) [] [])) [(.c (.i 2)),.c (.u 5),.c (.u 0),.c (.u 0),.c (.u 5),(.c .nilSl)]),.m 46 45,⟨some 47,(some (46,true)),.buildSl 1 1 [(.i 0)] [(0,1,.c (.i 1))]⟩,⟨some 48,(some (46,true)),.callV (.c (.fn (.func 14) [] [])) [(.c (.i 3)),.c (.u 18446744073709551615),.c (.u 2),.c (.u 0),.c (.u 1),.t 47]⟩,.z 49 (.pick (.t 46) (.t 48) (.c (.bool false))),.m 50 49,⟨some 51,(some (50,true)),.buildSl 1 1 [(.i 0)] [(0,1,.c (.i 1))]⟩,⟨some 52,(some (50,true)),.callV (.c (.fn (.func 14) [] [])) [(.c (.i 4)),.c (.u 1),.c (.u 2),.c (.u 0),.c (.u 18446744073709551615),.t 51]⟩,.z 53 (.pick (.t 50) (.t 52) (.c (.bool false))),.m 54 53,⟨some 55,(some (54,true)),.buildSl 1 1 [(.i 0)] [(0,1,.c (.i 1))]⟩,⟨some 56,(some (54,true)),.callV (.c (.fn (.func 14) [] [])) [(.c (.i 5)),.c (.u 3),.c (.u 5),.c (.u 0),.c (.u 15),.t 55]⟩,.z 57 (.pick (.t 54) (.t 56) (.c (.bool false))),.m 58 57,⟨some 59,(some (58,true)),.buildSl 1 1 [(.i 0)] [(0,1,.c (.i 1))]⟩,⟨some 60,(some (58,true)),.callV (.c (.fn (.func 14) [] [])) [(.c (.i 6)),.c (.u 3),.c (.u 5),.c (.u 0),.c (.u 15),.t 59]⟩,.z 61 (.pick (.t 58) (.t 60) (.c (.bool false))),.m 62 61,⟨some 63,(some (62,true)),.buildSl 1 1 [(.i 0)] [(0,1,.c (.i 1))]⟩,⟨some 64,(some (62,true)),.callV (.c (.fn (.func 14) [] [])) [(.c (.i 7)),.c (.u 3),.c (.u 5),.c (.u 0),.c (.u 1),.t 63]⟩,.z 65 (.pick (.t 62) (.t 64) (.c (.bool false))),.m 66 65,⟨some 67,(some (66,true)),.buildSl 1 1 [(.i 0)] [(0,1,.c (.i 1))]⟩,⟨some 68,(some (66,true)),.callV (.c (.fn (.func 14) [] [])) [(.c (.i 7)),.c (.u 5),.c (.u 5),.c (.u 0),.c (.u 0),.t 67]⟩,.z 69 (.pick (.t 66) (.t 68) (.c (.bool false))),.m 70 69,⟨some 71,(some (70,true)),.buildSl 1 2 [(.i 0),(.i 0)] [(0,1,.c (.i 1)),(1,1,.c (.i 2))]⟩,⟨some 72,(some (70,true)),.callV (.c (.fn (.func 14) [] [])) [(.c (.i 8)),.c (.u 3),.c (.u 5),.c (.u 7),.c (.u 3),.t 71]⟩,.z 73 (.pick (.t 70) (.t 72) (.c (.bool false))),.m 74 73,⟨some 75,(some (74,true)),.buildSl 1 2 [(.i 0),(.i 0)] [(0,1,.c (.i 1)),(1,1,.c (.i 2))]⟩,⟨some 76,(some (74,true)),.callV (.c (.fn (.func 14) [] [])) [(.c (.i 8)),.c (.u 3),.c (.u 5),.c (.u 8),.c (.u 5),.t 75]⟩,.z 77 (.pick (.t 74) (.t 76) (.c (.bool false))),.m 78 77,⟨some 79,(some (78,true)),.buildSl 1 1 [(.i 0)] [(0,1,.c (.i 2))]⟩,⟨some 80,(some (78,true)),.callV (.c (.fn (.func 14) [] [])) [(.c (.i 9)),.c (.u 17),.c (.u 0),.c (.u 5),.c (.u 2),.t 79]⟩,.z 81 (.pick (.t 78) (.t 80) (.c (.bool false))),.m 82 81,⟨some 83,(some (82,true)),.buildSl 1 2 [(.i 0),(.i 0)] [(0,1,.c (.i 1)),(1,1,.c (.i 2))]⟩,⟨some 84,(some (82,true)),.callV (.c (.fn (.func 14) [] [])) [(.c (.i 10)),.c (.u 4),.c (.u 4),.c (.u 5),.c (.u 3),.t 83]⟩,.z 85 (.pick (.t 82) (.t 84) (.c (.bool false))),.m 86 85,⟨some 87,(some (86,true)),.buildSl 1 2 [(.i 0),(.i 0)] [(0,1,.c (.i 1)),(1,1,.c (.i 2))]⟩,⟨some 88,(some (86,true)),.callV (.c (.fn (.func 14) [] [])) [(.c (.i 11)),.c (.u 1),.c (.u 4),.c (.u 5),.c (.u 2),.t 87]⟩,.z 89 (.pick (.t 86) (.t 88) (.c (.bool false))),.m 90 89,⟨some 91,(some (90,true)),.buildSl 1 2 [(.i 0),(.i 0)] [(0,1,.c (.i 1)),(1,1,.c (.i 2))]⟩,⟨some 92,(some (90,true)),.callV (.c (.fn (.func 14) [] [])) [(.c (.i 12)),.c (.u 3),.c (.u 5),.c (.u 7),.c (.u 4),.t 91]⟩,.z 93 (.pick (.t 90) (.t 92) (.c (.bool false))),.m 94 93,⟨some 95,(some (94,true)),.buildSl 1 2 [(.i 0),(.i 0)] [(0,1,.c (.i 1)),(1,1,.c (.i 2))]⟩,⟨some 96,(some (94,true)),.callV (.c (.fn (.func 14) [] [])) [(.c (.i 13)),.c (.u 3),.c (.u 4),.c (.u 7),.c (.u 4),.t 95]⟩,.z 97 (.pick (.t 94) (.t 96) (.c (.bool false))),.m 10 97]) (.seq (.ops [.z 98 (.callV (.c (.fn (.func 13) [] [])) [(.c (.i 12)),.c (.i 3),.c (.i 0),.c (.i 1),.c (.i 2),.c (.u 0)]),.z 99 (.callV (.c (.fn (.func 15) [] [])) [.t 98]),.m 11 99]) (.seq (.ops [.z 100 (.callV (.c (.fn (.func 10) [] [])) []),.z 12 (.alloc [.nilSl,.nilSl,.nilSl]),⟨none,none,.store 3 (.t 12) (.t 100)⟩]) (.seq (.draw [(.f 101 1 12,[]),(.l 102 101,[]),(.z 103 (.slSl3 7 (.t 102) none (some (.c (.i 2))) (.c (.i 2))),[]),(.z 104 (.callV (.c (.fn (.func 13) [] [])) [(.c (.i 15)),.c (.i (-1)),.c (.i (-1)),.c (.i (-1)),.c (.i (-1)),.c (.u 5)]),[(.l 102 101,false)]),(.z 105 (.callV (.c (.fn (.func 13) [] [])) [(.c (.i 3)),.c (.i 1),.c (.i 1),.c (.i 2),.c (.i (-1)),.c (.u 0)]),[(.l 102 101,false)]),(.z 106 (.callV (.c (.fn (.func 13) [] [])) [(.c (.i 16)),.c (.i (-1)),.c (.i (-1)),.c (.i (-1)),.c (.i (-1)),.c (.u 0)]),[(.l 102 101,false)]),(.z 107 (.buildSl 7 3 [(.i 0),(.i 0),(.i 0),(.i 0),(.i 0),(.i 0),(.u 0),(.i 0),(.i 0),(.i 0),(.i 0),(.i 0),(.i 0),(.u 0),(.i 0),(.i 0),(.i 0),(.i 0),(.i 0),(.i 0),(.u 0)] [(0,7,.t 104),(7,7,.t 105),(14,7,.t 106)]),[(.l 102 101,false)]),(.z 108 (.appG 7 (.t 103) (.t 107)),[]),(.f 109 1 12,[]),(⟨none,none,.store 1 (.t 109) (.t 108)⟩,[])]) (.seq (.ops [.z 111 (.loadN 3 (.t 12)),.z 112 (.buildSl 1 1 [.nilSl] [(0,1,(.c .nilSl))]),.z 113 (.callV (.c (.fn (.func 11) [] [])) [.t 111,.t 112]),.m 110 113,.z 114 (.extract 0 (.t 110)),.z 115 (.extract 1 (.t 110)),.m 13 114,.m 14 115]) (.seq (.ops [.m 116 10,.m 117 116,⟨some 118,(some (117,true)),.move (.t 3)⟩,⟨some 119,(some (117,true)),.bin .eql true 32 (.t 118) (.c (.i 9))⟩,.z 120 (.pick (.t 117) (.t 119) (.c (.bool false))),.m 121 120,⟨some 122,(some (121,true)),.move (.t 5)⟩,⟨some 123,(some (121,true)),.bin .eql true 32 (.t 122) (.c (.i 3))⟩,.z 124 (.pick (.t 121) (.t 123) (.c (.bool false))),.m 125 124,⟨some 126,(some (125,true)),.move (.t 7)⟩,⟨some 127,(some (125,true)),.bin .eql true 32 (.t 126) (.c (.i 2))⟩,.z 128 (.pick (.t 125) (.t 127) (.c (.bool false))),.m 129 128,⟨some 130,(some (129,true)),.move (.t 9)⟩,⟨some 131,(some (129,true)),.bin .eql true 32 (.t 130) (.c (.i 9))⟩,.z 132 (.pick (.t 129) (.t 131) (.c (.bool false))),.m 133 132,⟨some 134,(some (133,true)),.move (.t 11)⟩,⟨some 135,(some (133,true)),.lenSl (.t 134)⟩,⟨some 136,(some (133,true)),.bin .eql true 3 (.t 135) (.c (.i 3))⟩,.z 137 (.pick (.t 133) (.t 136) (.c (.bool false))),.m 138 137,⟨some 139,(some (138,true)),.move (.t 11)⟩,⟨some 140,(some (138,true)),.ixAddr 3 (.t 139) (.c (.i 0))⟩,⟨some 141,(some (138,true)),.loadN 3 (.t 140)⟩,⟨some 142,(some (138,true)),.build [(.i 0),(.i 0),(.i 0)] [(0,1,.c (.i 1)),(1,1,.c (.i 2)),(2,1,.c (.i (-1)))]⟩,⟨some 143,(some (138,true)),.bin .eql false 44 (.t 141) (.t 142)⟩,.z 144 (.pick (.t 138) (.t 143) (.c (.bool false))),.m 145 144,⟨some 146,(some (145,true)),.move (.t 11)⟩,⟨some 147,(some (145,true)),.ixAddr 3 (.t 146) (.c (.i 2))⟩,⟨some 148,(some (145,true)),.loadN 3 (.t 147)⟩,⟨some 149,(some (145,true)),.build [(.i 0),(.i 0),(.i 0)] [(0,1,.c (.i 2)),(1,1,.c (.i 1)),(2,1,.c (.i 2))]⟩,⟨some 150,(some (145,true)),.bin .eql false 44 (.t 148) (.t 149)⟩,.z 151 (.pick (.t 145) (.t 150) (.c (.bool false))),.m 152 151,⟨some 153,(some (152,true)),.move (.t 14)⟩,⟨some 154,(some (152,true)),.bin .eql true 32 (.t 153) (.c (.i 0))⟩,.z 155 (.pick (.t 152) (.t 154) (.c (.bool false))),.m 156 155,⟨some 157,(some (156,true)),.move (.t 13)⟩,⟨some 158,(some (156,true)),.lenSl (.t 157)⟩,⟨some 159,(some (156,true)),.bin .eql true 3 (.t 158) (.c (.i 1))⟩,.z 160 (.pick (.t 156) (.t 159) (.c (.bool false))),.m 161 160,⟨some 162,(some (161,true)),.move (.t 13)⟩,⟨some 163,(some (161,true)),.ixAddr 1 (.t 162) (.c (.i 0))⟩,⟨some 164,(some (161,true)),.load1 (.t 163)⟩,⟨some 165,(some (161,true)),.buildSl 1 1 [(.u 0)] [(0,1,.c (.u 15))]⟩,⟨some 166,(some (161,true)),.callV (.c (.fn (.func 16) [] [])) [.t 164,.t 165]⟩,.z 167 (.pick (.t 161) (.t 166) (.c (.bool false))),.m 168 167,⟨some 169,(some (168,true)),.loadN 3 (.t 12)⟩,⟨some 170,(some (168,true)),.callV (.c (.fn (.func 17) [] [])) [.t 169]⟩,⟨some 171,(some (168,true)),.bin .eql true 3 (.t 170) (.c (.i 12))⟩,.z 172 (.pick (.t 168) (.t 171) (.c (.bool false))),.m 173 172,⟨some 174,(some (173,true)),.loadN 3 (.t 1)⟩,⟨some 175,(some (173,true)),.buildSl 1 1 [(.u 0)] [(0,1,.c (.u 1))]⟩,⟨some 176,(some (173,true)),.buildSl 1 1 [.nilSl] [(0,1,.t 175)]⟩,⟨some 177,(some (173,true)),.callV (.c (.fn (.func 18) [] [])) [.t 174,.t 176]⟩,.z 178 (.pick (.t 173) (.t 177) (.c (.bool false))),.m 179 178,⟨some 180,(some (179,true)),.loadN 3 (.t 1)⟩,⟨some 181,(some (179,true)),.buildSl 1 1 [(.u 0)] [(0,1,.c (.u 2))]⟩,⟨some 182,(some (179,true)),.buildSl 1 1 [.nilSl] [(0,1,.t 181)]⟩,⟨some 183,(some (179,true)),.callV (.c (.fn (.func 18) [] [])) [.t 180,.t 182]⟩,⟨some 184,(some (179,true)),.un .not (.t 183)⟩,.z 185 (.pick (.t 179) (.t 184) (.c (.bool false))),.m 186 185,⟨some 187,(some (186,true)),.build [(.i 0),(.i 0),(.i 0)] [(0,1,.c (.i 3))]⟩,⟨some 188,(some (186,true)),.buildSl 1 1 [(.u 0)] [(0,1,.c (.u 1))]⟩,⟨some 189,(some (186,true)),.buildSl 1 1 [.nilSl] [(0,1,.t 188)]⟩,⟨some 190,(some (186,true)),.callV (.c (.fn (.func 19) [] [])) [.t 187,.t 189]⟩,.z 191 (.pick (.t 186) (.t 190) (.c (.bool false))),.m 192 191,⟨some 193,(some (192,true)),.build [(.i 0),(.i 0),(.i 0)] [(0,1,.c (.i 1)),(1,1,.c (.i 1))]⟩,⟨some 194,(some (192,true)),.buildSl 1 1 [(.u 0)] [(0,1,.c (.u 1))]⟩,⟨some 195,(some (192,true)),.buildSl 1 1 [.nilSl] [(0,1,.t 194)]⟩,⟨some 196,(some (192,true)),.callV (.c (.fn (.func 19) [] [])) [.t 193,.t 195]⟩,⟨some 197,(some (192,true)),.un .not (.t 196)⟩,.z 198 (.pick (.t 192) (.t 197) (.c (.bool false))),.m 0 198]) .ret))))))))))))))
theorem r_law20_DenoteNames:resFn0 Tryz.prog 3=some ⟨199,c_law20_DenoteNames.r,[.tmp 0]⟩:=by kernel_rfl
theorem k_law20_DenoteNames:c_law20_DenoteNames.ok=true:=by kernel_rfl
theorem str_fz {t:LTgt} {G:LHeap} {A B C X:List LV} {p1 p2 p3 q k1 k2 k3 s1 s2 s3 n1 n2 n3 e1 e2 e3 sq:Nat} {K:LV→LHeap→Prop} (h1:G[p1]?=some (.dyn A n1 e1 k1 s1)) (h2:G[p2]?=some (.dyn B n2 e2 k2 s2)) (h3:G[p3]?=some (.dyn C n3 e3 k3 s3)) (hq:G[q]?=some (.cells [.dy p1 k1,.dy p2 k2,.dy p3 k3] sq)) (d1:p1≠p2) (d2:p1≠p3) (d3:p2≠p3) (_c1:p1≠q) (c2:p2≠q) (c3:p3≠q)
  (k:∀ G',G.length≤G'.length→(∀ x,x≠p1→x≠p2→x≠p3→x≠q→G'[x]?=G[x]?)→G'[q]?=some (.cells [.lst A n1 e1,.lst B n2 e2,.lst C n3 e3] (sq+1+1+1))→CallL Tryz.prog t (.agg [.lst A n1 e1,.lst B n2 e2,.lst C n3 e3]::X) G' K):CallL Tryz.prog t (.agg [.dy p1 k1,.dy p2 k2,.dy p3 k3]::X) G K:=by
 have hql:q < G.length:=(List.getElem?_eq_some_iff.1 hq).1
 refine CallL_fzC (args':=.agg [.lst A n1 e1,.dy p2 k2,.dy p3 k3]::X) (a:=[]) (b:=[.dy p2 k2,.dy p3 k3]) h1 hq (fun c c' r hle hx ha=>?_) ?_
 ·cases ha with
  | cons e es=>cases e with
   | agg e=>cases e with
    | cons e1 e2=>exact .cons (.agg (.cons (hx _ e1) (e2.mono hle))) (es.mono hle)
 refine CallL_fzC (p:=p2) (q:=q) (args':=.agg [.lst A n1 e1,.lst B n2 e2,.dy p3 k3]::X) (a:=[.lst A n1 e1]) (b:=[.dy p3 k3]) (by rw[List.getElem?_set_ne (Ne.symm c2),List.getElem?_set_ne d1]; exact h2) (List.getElem?_set_self (by simpa using hql)) (fun c c' r hle hx ha=>?_) ?_
 ·cases ha with
  | cons e es=>cases e with
   | agg e=>cases e with
    | cons e1 e2=>cases e2 with
     | cons e2 e3=>exact .cons (.agg (.cons (e1.mono hle) (.cons (hx _ e2) (e3.mono hle)))) (es.mono hle)
 refine CallL_fzC (p:=p3) (q:=q) (args':=.agg [.lst A n1 e1,.lst B n2 e2,.lst C n3 e3]::X) (a:=[.lst A n1 e1,.lst B n2 e2]) (b:=[]) (by rw[List.getElem?_set_ne (Ne.symm c3),List.getElem?_set_ne d3,List.getElem?_set_ne (Ne.symm c3),List.getElem?_set_ne d2]; exact h3) (List.getElem?_set_self (by simpa using hql)) (fun c c' r hle hx ha=>?_) ?_
 ·cases ha with
  | cons e es=>cases e with
   | agg e=>cases e with
    | cons e1 e2=>cases e2 with
     | cons e2 e3=>cases e3 with
      | cons e3 e4=>exact .cons (.agg (.cons (e1.mono hle) (.cons (e2.mono hle) (.cons (hx _ e3) (e4.mono hle))))) (es.mono hle)
 refine k _ (by simp) (fun x x1 x2 x3 xq=>?_) (List.getElem?_set_self (by simpa using hql))
 rw[List.getElem?_set_ne (Ne.symm xq),List.getElem?_set_ne (Ne.symm x3),List.getElem?_set_ne (Ne.symm xq),List.getElem?_set_ne (Ne.symm x2),List.getElem?_set_ne (Ne.symm xq),List.getElem?_set_ne (Ne.symm x1)]
theorem ins_fz {t:LTgt} {G:LHeap} {A:LV} {x:List UInt64} {p q s1 s2:Nat} {K:LV→LHeap→Prop} (h1:G[p]?=some (.dyn (x.map .u) x.length 1 0 s1)) (h2:G[q]?=some (.dyn [.dy p 0] 1 1 0 s2)) (hpq:p≠q)
  (k:∀ G',G.length≤G'.length→(∀ y,y≠p→y≠q→G'[y]?=G[y]?)→CallL Tryz.prog t [A,LN [x]] G' K):CallL Tryz.prog t [A,.dy q 0] G K:=by
 have hql:q < G.length:=(List.getElem?_eq_some_iff.1 h2).1
 refine CallL_fzD (p:=p) (q:=q) (a:=[]) (b:=[]) h1 h2 hpq ?_
 refine CallL_fzG (args':=[A,LN [x]]) (p:=q) (List.getElem?_set_self (by simpa using hql)) (fun c c' r hle hx ha=>?_) (k _ (by simp) fun y y1 y2=>?_)
 ·cases ha with
  | cons e es=>cases es with
   | cons e2 es=>exact .cons (e.mono hle) (.cons (hx _ e2) (es.mono hle))
 ·rw[List.getElem?_set_ne (Ne.symm y2),List.getElem?_set_ne (Ne.symm y2),List.getElem?_set_ne (Ne.symm y1)]
theorem tell_own {G:LHeap} {k:Int} {a b c want:UInt64} {l:List Int} {p st:Nat} {K:LV→LHeap→Prop} (hl:l.length≤1000) (h:OneIs (k4 k (hasB l) (hasC l) (if k=13 then 1 else 0)) a.toNat b.toNat c.toNat want.toNat) (hg:G[p]?=some (.dyn (l.map .i) l.length 1 0 st)) (kk:∀ G',(∀ x,x≠p→G'[x]?=G[x]?)→G.length≤G'.length→K (.bool true) G'):CallL Tryz.prog (.fn 14) [.i k,.u a,.u b,.u c,.u want,.dy p 0] G K:=by
 have di:dats (l.map .i)=true:=dats_map (fun _=>rfl) l
 refine CallL_fz (a:=[.i k,.u a,.u b,.u c,.u want]) (b:=[]) hg (CallL_F (law20_tells_ok hl h) (bors_self _ (by simp[dats,LV.dat,di])) ?_)
 exact kk _ (fun x hx=>List.getElem?_set_ne (Ne.symm hx)) (by simp)
theorem str_fz2 {t:LTgt} {G:LHeap} {A B X:List LV} {p1 p2 q k1 k2 s1 s2 n1 n2 e1 e2 sq:Nat} {K:LV→LHeap→Prop} (h1:G[p1]?=some (.dyn A n1 e1 k1 s1)) (h2:G[p2]?=some (.dyn B n2 e2 k2 s2)) (hq:G[q]?=some (.cells [.dy p1 k1,.dy p2 k2,.nilSl] sq)) (d1:p1≠p2) (_c1:p1≠q) (c2:p2≠q)
  (k:∀ G',G.length≤G'.length→(∀ x,x≠p1→x≠p2→x≠q→G'[x]?=G[x]?)→G'[q]?=some (.cells [.lst A n1 e1,.lst B n2 e2,.nilSl] (sq+1+1))→CallL Tryz.prog t (.agg [.lst A n1 e1,.lst B n2 e2,.lst [] 0 7]::X) G' K):CallL Tryz.prog t (.agg [.dy p1 k1,.dy p2 k2,.nilSl]::X) G K:=by
 have hql:q < G.length:=(List.getElem?_eq_some_iff.1 hq).1
 refine CallL_fzC (args':=.agg [.lst A n1 e1,.dy p2 k2,.nilSl]::X) (a:=[]) (b:=[.dy p2 k2,.nilSl]) h1 hq (fun c c' r hle hx ha=>?_) ?_
 ·cases ha with
  | cons e es=>cases e with
   | agg e=>cases e with
    | cons e1 e2=>exact .cons (.agg (.cons (hx _ e1) (e2.mono hle))) (es.mono hle)
 refine CallL_fzC (p:=p2) (q:=q) (args':=.agg [.lst A n1 e1,.lst B n2 e2,.nilSl]::X) (a:=[.lst A n1 e1]) (b:=[.nilSl]) (by rw[List.getElem?_set_ne (Ne.symm c2),List.getElem?_set_ne d1]; exact h2) (List.getElem?_set_self (by simpa using hql)) (fun c c' r hle hx ha=>?_) ?_
 ·cases ha with
  | cons e es=>cases e with
   | agg e=>cases e with
    | cons e1 e2=>cases e2 with
     | cons e2 e3=>exact .cons (.agg (.cons (e1.mono hle) (.cons (hx _ e2) (e3.mono hle)))) (es.mono hle)
 refine CallL_args (args':=.agg [.lst A n1 e1,.lst B n2 e2,.lst [] 0 7]::X) (fun c r ha=>?_) ?_
 ·cases ha with
  | cons e es=>cases e with
   | agg e=>cases e with
    | cons e1 e2=>cases e2 with
     | cons e2 e3=>cases e3 with
      | cons e3 e4 =>
       cases e3
       exact .cons (.agg (.cons e1 (.cons e2 (.cons .lstNil e4)))) es
 refine k _ (by simp) (fun x x1 x2 xq=>?_) (List.getElem?_set_self (by simpa using hql))
 rw[List.getElem?_set_ne (Ne.symm xq),List.getElem?_set_ne (Ne.symm x2),List.getElem?_set_ne (Ne.symm xq),List.getElem?_set_ne (Ne.symm x1)]
theorem nil_fz {t:LTgt} {G:LHeap} {A:LV} {q s2:Nat} {K:LV→LHeap→Prop} (h2:G[q]?=some (.dyn [.nilSl] 1 1 0 s2))
  (k:∀ G',G.length≤G'.length→(∀ y,y≠q→G'[y]?=G[y]?)→CallL Tryz.prog t [A,LN [[]]] G' K):CallL Tryz.prog t [A,.dy q 0] G K:=by
 have hql:q < G.length:=(List.getElem?_eq_some_iff.1 h2).1
 refine CallL_cells (l':=[LU []]) h2 (fun c r ha=>?_) ?_
 ·cases ha with
  | cons e es=>exact .cons (nil_lst e) es
 refine CallL_fz (a:=[A]) (b:=[]) (List.getElem?_set_self hql) ?_
 exact k _ (by simp) fun y hy=>by rw[List.getElem?_set_ne (Ne.symm hy),List.getElem?_set_ne (Ne.symm hy)]
theorem z_step {G G':LHeap} {z:Nat} {x ob:LObj} (h:G[z]?=some ob) (hf:∀ y,y≠G.length→G'[y]?=(G++[x])[y]?):G'[z]?=some ob:=by
 have hz:=(List.getElem?_eq_some_iff.1 h).1
 rw[hf z (by omega),old1 hz]; exact h
theorem law20_DenoteNames_run:CallL Tryz.prog (.fn 3) [] [] fun v _=>v=.bool true:=by
 refine call_top r_law20_DenoteNames k_law20_DenoteNames (by kernel_rfl) ⟨by kernel_rfl,by kernel_rfl⟩ rfl ?_
 have hdd:∀ X,dats [.agg (kerC vsX osX [needX]),LN X]=true:=fun X=>by simp[dats,LV.dat,kerC,vsC_dats,osC_dats,LN,LN_dats]
 have hk3:(kerC vsX osX [needX]).length=3:=rfl
 have hkt:(kerC vsX osX [needX]).take 3=kerC vsX osX [needX]:=rfl
 simp[c_law20_DenoteNames]
 refine CallL_F law20_lives_ok (by simp) ?_
 simp
 refine law20_example_any fun G2 p hke hp g0 g1=>?_
 have lp:p+1 < G2.length:=(List.getElem?_eq_some_iff.1 g1).1
 simp
 refine str_fz (A:=vsC vsX) (B:=osC osX) (C:=osC [needX]) (p1:=p) (p2:=p+1) (p3:=G2.length+1) (q:=G2.length) (by rw[old1 (by omega)]; exact g0) (by rw[old1 (by omega)]; exact g1) (by rw[List.getElem?_append_right (by omega),show G2.length+1 - G2.length=1 by omega]; rfl) (by simp; rfl) (by omega) (by omega) (by omega) (by omega) (by omega) (by omega) fun G3 l3 f3 c3=>?_
 simp at l3
 refine ins_fz (x:=[2]) (p:=G2.length+2) (q:=G2.length+3) (by rw[f3 _ (by omega) (by omega) (by omega) (by omega)]; simp; rfl) (by rw[f3 _ (by omega) (by omega) (by omega) (by omega)]; simp; rfl) (by omega) fun G4 l4 f4=>?_
 have c4:=(f4 G2.length (by omega) (by omega)).trans c3
 have hr:=Run_ok vsX osX [needX] [[2]] (by decide) (by simp)
 rw[show [[(2:UInt64)]].map val=[2] by simp[val_single],runX1] at hr
 refine CallL_V hr (hdd _) ?_
 clear f3 c3 g0 g1 hke
 generalize hz:G2.length=z at *
 simp[c4]
 have lz:z < G4.length:=(List.getElem?_eq_some_iff.1 c4).1
 refine ins_fz (x:=[1,1,1]) (p:=G4.length) (q:=G4.length+1) (by simp; rfl) (by rw[List.getElem?_append_right (by omega),show G4.length+1 - G4.length=1 by omega]; rfl) (by omega) fun G5 l5 f5=>?_
 simp at l5
 have c5:=(f5 z (by omega) (by omega)).trans ((old1 lz).trans c4)
 have hr:=Run_ok vsX osX [needX] [[1,1,1]] (by decide) (by simp)
 rw[show [[(1:UInt64),1,1]].map val=[2 ^ 128+2 ^ 64+1] by simp[val],runX2 (by decide)] at hr
 refine CallL_V hr (hdd _) ?_
 simp[c5]
 have hr:=Run_ok vsX osX [needX] [] (by decide) (by simp)
 rw[List.map_nil,runX3] at hr
 refine CallL_args (args':=[.agg (kerC vsX osX [needX]),LN []]) (fun c r ha=>?_) (CallL_V hr (hdd _) ?_)
 ·cases ha with
  | cons e es=>cases es with
   | cons e2 es =>
    cases e2
    exact .cons e (.cons .lstNil es)
 simp
 refine CallL_F (law20_op_ok 9 3 0 (-1) 2 0) (by simp) ?_
 simp[Ko.f]
 refine CallL_F (law20_all_no (o:=k4 9 (-1) 2 0) (a:=5) (b:=0) (c:=0) (by decide) (by decide) (by decide)) (bors_self _ (by simp[dats,LV.dat,k4,Ko.f])) ?_
 simp
 refine CallL_args (args':=[.i 2,.u 5,.u 0,.u 0,.u 5,.lst [] 0 1]) (fun c r ha=>?_) (CallL_F (law20_tells_ok (k:=2) (a:=5) (b:=0) (c:=0) (want:=5) (l:=[]) (by simp) (by simpa [hasB,hasC] using one_0)) (by simp) ?_)
 ·cases ha with
  | cons e1 es=>cases es with
   | cons e2 es=>cases es with
    | cons e3 es=>cases es with
     | cons e4 es=>cases es with
      | cons e5 es=>cases es with
       | cons e6 es =>
        cases e6
        exact .cons e1 (.cons e2 (.cons e3 (.cons e4 (.cons e5 (.cons .lstNil es)))))
 simp
 refine tell_own (l:=[1]) (p:=G5.length) (by simp) (by simpa [hasB,hasC] using one_1) (by simp; rfl) fun G6 f6 l6=>?_
 simp
 refine tell_own (l:=[1]) (p:=G6.length) (by simp) (by simpa [hasB,hasC] using one_2) (by simp; rfl) fun G7 f7 l7=>?_
 simp
 refine tell_own (l:=[1]) (p:=G7.length) (by simp) (by simpa [hasB,hasC] using one_3) (by simp; rfl) fun G8 f8 l8=>?_
 simp
 refine tell_own (l:=[1]) (p:=G8.length) (by simp) (by simpa [hasB,hasC] using one_4) (by simp; rfl) fun G9 f9 l9=>?_
 simp
 refine tell_own (l:=[1]) (p:=G9.length) (by simp) (by simpa [hasB,hasC] using one_5) (by simp; rfl) fun G10 f10 l10=>?_
 simp
 refine tell_own (l:=[1]) (p:=G10.length) (by simp) (by simpa [hasB,hasC] using one_6) (by simp; rfl) fun G11 f11 l11=>?_
 simp
 refine tell_own (l:=[1,2]) (p:=G11.length) (by simp) (by simpa [hasB,hasC] using one_7) (by simp; rfl) fun G12 f12 l12=>?_
 simp
 refine tell_own (l:=[1,2]) (p:=G12.length) (by simp) (by simpa [hasB,hasC] using one_8) (by simp; rfl) fun G13 f13 l13=>?_
 simp
 refine tell_own (l:=[2]) (p:=G13.length) (by simp) (by simpa [hasB,hasC] using one_9) (by simp; rfl) fun G14 f14 l14=>?_
 simp
 refine tell_own (l:=[1,2]) (p:=G14.length) (by simp) (by simpa [hasB,hasC] using one_10) (by simp; rfl) fun G15 f15 l15=>?_
 simp
 refine tell_own (l:=[1,2]) (p:=G15.length) (by simp) (by simpa [hasB,hasC] using one_11) (by simp; rfl) fun G16 f16 l16=>?_
 simp
 refine tell_own (l:=[1,2]) (p:=G16.length) (by simp) (by simpa [hasB,hasC] using one_12) (by simp; rfl) fun G17 f17 l17=>?_
 simp
 refine tell_own (l:=[1,2]) (p:=G17.length) (by simp) (by simpa [hasB,hasC] using one_13) (by simp; rfl) fun G18 f18 l18=>?_
 simp
 refine CallL_F (law20_op_ok 12 3 0 1 2 0) (by simp) ?_
 simp[Ko.f]
 refine CallL_V (Needs_ok ⟨12,3,-1,0,1,2,0⟩) (by simp[dats,LV.dat,Ko.f]) ?_
 simp
 refine law20_example_any fun G19 p2 hke2 hp2 g02 g12=>?_
 simp
 have lp2:p2+1 < G19.length:=(List.getElem?_eq_some_iff.1 g12).1
 simp[↓old1 lp2,g12]
 refine CallL_F (law20_op_ok 15 (-1) (-1) (-1) (-1) 5) (by simp) ?_
 simp[Ko.f,↓old1 lp2,g12]
 refine CallL_F (law20_op_ok 3 1 1 2 (-1) 0) (by simp) ?_
 simp[Ko.f,↓old1 lp2,g12]
 refine CallL_F (law20_op_ok 16 (-1) (-1) (-1) (-1) 0) (by simp) ?_
 simp[Ko.f,↓old1 lp2,g12]
 rw[fullV_t (by decide)]
 have c18:=z_step (z_step (z_step (z_step (z_step (z_step (z_step (z_step (z_step (z_step (z_step (z_step (z_step c5 f6) f7) f8) f9) f10) f11) f12) f13) f14) f15) f16) f17) f18
 have c19:=hke2.at c18
 have lz18:=(List.getElem?_eq_some_iff.1 c18).1
 have lz19:=(List.getElem?_eq_some_iff.1 c19).1
 clear f6 f7 f8 f9 f10 f11 f12 f13 f14 f15 f16 f17 f18 c18 hke2 l6 l7 l8 l9 l10 l11 l12 l13 l14 l15 l16 l17 l18
 have hol:osX.length * 7=21:=rfl
 simp[↓old1 lp2,g12,vsC_len,osC_len,hol]
 refine str_fz2 (A:=vsC vsX) (B:=osC osL) (p1:=p2) (p2:=G19.length+2) (q:=G19.length) (by rw[old1 (by omega)]; exact g02) (by rw[List.getElem?_append_right (by omega),show G19.length+2 - G19.length=2 by omega]; rfl) (by rw[List.getElem?_append_right (by omega),Nat.sub_self]; rfl) (by omega) (by omega) (by omega) fun G20 l20 f20 c20=>?_
 simp at l20
 refine nil_fz (by rw[f20 _ (by omega) (by omega) (by omega),List.getElem?_append_right (by omega),show G19.length+3 - G19.length=3 by omega]; rfl) fun G21 l21 f21=>?_
 have c21:=(f21 G19.length (by omega)).trans c20
 have k21:=(f21 z (by omega)).trans ((f20 z (by omega) (by omega) (by omega)).trans ((old1 lz19).trans c19))
 have hr:=Run_ok vsX osL [] [[]] (by decide) (by simp)
 rw[show [([]:List UInt64)].map val=[0] by simp[val],runXL] at hr
 refine CallL_V hr (by simp[dats,LV.dat,kerC,vsC_dats,osC_dats,LN]) ?_
 clear f20 c20 f21 g02 g12 c19
 have hnd:needsL ⟨12,3,-1,0,1,2,0⟩=[(1,2,-1),(2,0,2),(2,1,2)]:=by decide
 simp[hnd,fcC,fcF]
 refine⟨_,rfl,rfl,factEq2 _ _ _,?_⟩
 simp
 refine⟨_,rfl,rfl,factEq2 _ _ _,?_⟩
 have h15:toL 15=[15]:=by
  have h:=toL_val (l:=[15]) (.inr (by decide))
  rw[val_single] at h
  exact h
 simp[h15]
 refine CallL_fz (a:=[LU [15]]) (b:=[]) (l:=[.u 15]) (len:=1) (esz:=1) (by rw[List.getElem?_append_right (by omega),Nat.sub_self]; rfl) ?_
 refine CallL_F (kit_Same_ok [15] [15] (by decide)) (bors_self _ (by decide)) ?_
 have lz21:=(List.getElem?_eq_some_iff.1 k21).1
 have lL21:=(List.getElem?_eq_some_iff.1 c21).1
 simp[List.getElem?_set_ne (show G21.length≠G19.length by omega),↓old1 lL21,c21]
 refine CallL_args (args':=[.agg (kerC vsX osL [])]) (fun c r ha=>?_) (CallL_F (Steps_ok vsX osL [] (by decide)) (bors_self _ (by simp[dats,LV.dat,kerC,vsC_dats,osC_dats])) ?_)
 ·cases ha with
  | cons e es=>cases e with
   | agg e=>cases e with
    | cons e1 e2=>cases e2 with
     | cons e2 e3=>cases e3 with
      | cons e3 e4 =>
       cases e3
       exact .cons (.agg (.cons e1 (.cons e2 (.cons .lstNil e4)))) es
 have metX1:metD vsX osX [needX] [1]=true:=by
  unfold metD startW
  rw[fitX (by decide),inX]
  decide
 have metX2:metD vsX osX [needX] [2]=false:=by
  unfold metD startW
  rw[fitX (by decide),inX]
  decide
 rw[stepsL]
 simp[List.getElem?_set_ne (show G21.length≠z by omega),↓old1 lz21,k21]
 refine ins_fz (x:=[1]) (p:=G21.length+1) (q:=G21.length+2) (by rw[List.getElem?_append_right (by omega),show G21.length+1 - G21.length=1 by omega]; rfl) (by rw[List.getElem?_append_right (by omega),show G21.length+2 - G21.length=2 by omega]; rfl) (by omega) fun G22 l22 f22=>?_
 simp at l22
 have k22:=(f22 z (by omega) (by omega)).trans ((old1 lz21).trans k21)
 refine CallL_F (Met_ok vsX osX [needX] [[1]] (by decide) (by simp)) (bors_self _ (hdd _)) ?_
 rw[show [[(1:UInt64)]].map val=[1] by simp[val_single],metX1]
 have lz22:=(List.getElem?_eq_some_iff.1 k22).1
 simp[k22]
 refine ins_fz (x:=[2]) (p:=G22.length) (q:=G22.length+1) (by rw[List.getElem?_append_right (by omega),Nat.sub_self]; rfl) (by rw[List.getElem?_append_right (by omega),show G22.length+1 - G22.length=1 by omega]; rfl) (by omega) fun G23 l23 f23=>?_
 refine CallL_F (Met_ok vsX osX [needX] [[2]] (by decide) (by simp)) (bors_self _ (hdd _)) ?_
 rw[show [[(2:UInt64)]].map val=[2] by simp[val_single],metX2]
 simp
 refine ins_fz (x:=[1]) (p:=G23.length) (q:=G23.length+1) (by rw[List.getElem?_append_right (by omega),Nat.sub_self]; rfl) (by rw[List.getElem?_append_right (by omega),show G23.length+1 - G23.length=1 by omega]; rfl) (by omega) fun G24 l24 f24=>?_
 refine CallL_F (dHolds_ok (3,0,0) [[1]] (by simp)) (bors_self _ (by simp[dats,LV.dat,LN])) ?_
 rw[show holdsB (3,0,0) ([[(1:UInt64)]].map val)=true by simp[val_single,holdsB,thereB,gN]]
 simp
 refine ins_fz (x:=[1]) (p:=G24.length) (q:=G24.length+1) (by rw[List.getElem?_append_right (by omega),Nat.sub_self]; rfl) (by rw[List.getElem?_append_right (by omega),show G24.length+1 - G24.length=1 by omega]; rfl) (by omega) fun G25 l25 f25=>?_
 refine CallL_F (dHolds_ok (1,1,0) [[1]] (by simp)) (bors_self _ (by simp[dats,LV.dat,LN])) ?_
 rw[show holdsB (1,1,0) ([[(1:UInt64)]].map val)=false by simp[val_single,holdsB,thereB]]
 simp
end Go.Proofs.YtnbnhnjffiagmaaGreat
