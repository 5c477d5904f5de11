/- Kernels: the document's check. -/
import Derived.Test.YtnbnhnjffiagmaaGreatFnK5
namespace Go.Proofs.YtnbnhnjffiagmaaGreat
open Go.Sv
set_option linter.unusedSimpArgs false
set_option maxRecDepth 10000
def c_ref19_Check:LC:=(.seq (.ops [.z 1 (.box (.t 0)),.z 2 (.move (.c (.i 0)))]) (.seq (.seq (.ops [.f 13 0 1,.l 14 13,.z 15 (.lenSl (.t 14)),.z 16 (.bin .lss true 3 (.t 15) (.c (.i 1))),.m 17 16,⟨some 18,(some (17,false)),.fieldAddr 0 (.t 1)⟩,⟨some 19,(some (17,false)),.load1 (.t 18)⟩,⟨some 20,(some (17,false)),.lenSl (.t 19)⟩,⟨some 21,(some (17,false)),.bin .gtr true 3 (.t 20) (.c (.i 256))⟩,.z 22 (.pick (.t 17) (.c (.bool true)) (.t 21)),.m 23 22,⟨some 24,(some (23,false)),.fieldAddr 1 (.t 1)⟩,⟨some 25,(some (23,false)),.load1 (.t 24)⟩,⟨some 26,(some (23,false)),.lenSl (.t 25)⟩,⟨some 27,(some (23,false)),.bin .gtr true 3 (.t 26) (.c (.i 4096))⟩,.z 28 (.pick (.t 23) (.c (.bool true)) (.t 27)),.m 29 28,⟨some 30,(some (29,false)),.fieldAddr 2 (.t 1)⟩,⟨some 31,(some (29,false)),.load1 (.t 30)⟩,⟨some 32,(some (29,false)),.lenSl (.t 31)⟩,⟨some 33,(some (29,false)),.bin .gtr true 3 (.t 32) (.c (.i 4096))⟩,.z 34 (.pick (.t 29) (.c (.bool true)) (.t 33))]) (.cond (.t 34) (.seq (.ops [.z 2 (.move (.c (.i 2)))]) .ret) .skip)) (.seq (.ops [.z 3 (.move (.c (.i 0)))]) (.seq (.seq (.ops [.z 4 (.move (.c (.i 0)))]) (.block 0 (.loop (.seq (.seq (.ops [.m 35 4,.f 36 0 1,.l 37 36,.z 38 (.lenSl (.t 37)),.z 39 (.bin .lss false 3 (.t 35) (.t 38))]) (.cond (.t 39) .skip (.exit 0))) (.seq (.block 1 (.seq (.ops [.f 42 0 1,.l 43 42,.m 44 4,.z 45 (.ixAddr 3 (.t 43) (.t 44)),.z 46 (.loadN 3 (.t 45)),.z 5 (.alloc [(.i 0),(.bool false),(.i 0)]),⟨none,none,.store 3 (.t 5) (.t 46)⟩]) (.seq (.seq (.ops [.f 47 0 5,.l 48 47,.z 49 (.bin .lss true 3 (.t 48) (.c (.i 1))),.m 50 49,⟨some 51,(some (50,false)),.fieldAddr 0 (.t 5)⟩,⟨some 52,(some (50,false)),.load1 (.t 51)⟩,⟨some 53,(some (50,false)),.bin .gtr true 3 (.t 52) (.c (.i 512))⟩,.z 54 (.pick (.t 50) (.c (.bool true)) (.t 53)),.m 55 54,⟨some 56,(some (55,false)),.fieldAddr 2 (.t 5)⟩,⟨some 57,(some (55,false)),.load1 (.t 56)⟩,⟨some 58,(some (55,false)),.bin .lss true 3 (.t 57) (.c (.i 0))⟩,.z 59 (.pick (.t 55) (.c (.bool true)) (.t 58)),.m 60 59,⟨some 61,(some (60,false)),.fieldAddr 2 (.t 5)⟩,⟨some 62,(some (60,false)),.load1 (.t 61)⟩,⟨some 63,(some (60,false)),.bin .gtr true 3 (.t 62) (.c (.i 3))⟩,.z 64 (.pick (.t 60) (.c (.bool true)) (.t 63)),.m 65 64,⟨some 66,(some (65,false)),.fieldAddr 2 (.t 5)⟩,⟨some 67,(some (65,false)),.load1 (.t 66)⟩,⟨some 68,(some (65,false)),.bin .gtr true 3 (.t 67) (.c (.i 0))⟩,⟨some 69,(some (65,false)),.move (.t 68)⟩,⟨some 70,(some (69,true)),.move (.t 3)⟩,⟨some 71,(some (69,true)),.move (.t 4)⟩,⟨some 72,(some (69,true)),.bin .lss false 3 (.t 70) (.t 71)⟩,⟨some 73,(some (65,false)),.pick (.t 69) (.t 72) (.c (.bool false))⟩,.z 74 (.pick (.t 65) (.c (.bool true)) (.t 73)),.m 75 74,⟨some 76,(some (75,false)),.fieldAddr 2 (.t 5)⟩,⟨some 77,(some (75,false)),.load1 (.t 76)⟩,⟨some 78,(some (75,false)),.bin .eql true 3 (.t 77) (.c (.i 1))⟩,⟨some 79,(some (75,false)),.move (.t 78)⟩,⟨some 80,(some (79,true)),.fieldAddr 1 (.t 5)⟩,⟨some 81,(some (79,true)),.load1 (.t 80)⟩,⟨some 82,(some (75,false)),.pick (.t 79) (.t 81) (.c (.bool false))⟩,.z 83 (.pick (.t 75) (.c (.bool true)) (.t 82)),.m 84 83,⟨some 85,(some (84,false)),.fieldAddr 2 (.t 5)⟩,⟨some 86,(some (84,false)),.load1 (.t 85)⟩,⟨some 87,(some (84,false)),.bin .gtr true 3 (.t 86) (.c (.i 1))⟩,⟨some 88,(some (84,false)),.move (.t 87)⟩,⟨some 89,(some (88,true)),.fieldAddr 1 (.t 5)⟩,⟨some 90,(some (88,true)),.load1 (.t 89)⟩,⟨some 91,(some (88,true)),.un .not (.t 90)⟩,⟨some 92,(some (84,false)),.pick (.t 88) (.t 91) (.c (.bool false))⟩,.z 93 (.pick (.t 84) (.c (.bool true)) (.t 92))]) (.cond (.t 93) (.seq (.ops [.z 2 (.move (.c (.i 2)))]) .ret) .skip)) (.seq (.ops [.f 94 2 5,.l 95 94,.z 96 (.bin .gtr true 3 (.t 95) (.c (.i 0)))]) (.cond (.t 96) (.ops [.m 97 3,.z 98 (.bin .add true 3 (.t 97) (.c (.i 1))),.m 3 98]) .skip))))) (.ops [.m 40 4,.z 41 (.bin .add true 3 (.t 40) (.c (.i 1))),.m 4 41])))))) (.seq (.seq (.ops [.m 99 3,.z 100 (.bin .gtr true 3 (.t 99) (.c (.i 12)))]) (.cond (.t 100) (.seq (.ops [.z 2 (.move (.c (.i 2)))]) .ret) .skip)) (.seq (.seq (.ops [.z 6 (.move (.c (.i 0)))]) (.block 2 (.loop (.seq (.seq (.ops [.m 101 6,.f 102 2 1,.l 103 102,.z 104 (.lenSl (.t 103)),.z 105 (.bin .lss false 3 (.t 101) (.t 104))]) (.cond (.t 105) .skip (.exit 2))) (.seq (.block 3 (.seq (.ops [.f 108 2 1,.l 109 108,.m 110 6,.z 111 (.ixAddr 7 (.t 109) (.t 110)),.z 112 (.loadN 7 (.t 111)),.z 7 (.alloc [(.i 0),(.i 0),(.i 0),(.i 0),(.i 0),(.i 0),(.u 0)]),⟨none,none,.store 7 (.t 7) (.t 112)⟩]) (.seq (.ops [.f 113 0 7,.l 114 113,.z 115 (.bin .neq true 3 (.t 114) (.c (.i 17))),.m 116 115,⟨some 117,(some (116,false)),.fieldAddr 0 (.t 1)⟩,⟨some 118,(some (116,false)),.load1 (.t 117)⟩,⟨some 119,(some (116,false)),.loadN 7 (.t 7)⟩,⟨some 120,(some (116,false)),.callV (.c (.fn (.func 65) [] [])) [.t 118,.t 119]⟩,⟨some 121,(some (116,false)),.un .not (.t 120)⟩,.z 122 (.pick (.t 116) (.c (.bool true)) (.t 121)),.m 123 122,⟨some 124,(some (123,false)),.fieldAddr 0 (.t 1)⟩,⟨some 125,(some (123,false)),.load1 (.t 124)⟩,⟨some 126,(some (123,false)),.fieldAddr 3 (.t 7)⟩,⟨some 127,(some (123,false)),.load1 (.t 126)⟩,⟨some 128,(some (123,false)),.ixAddr 3 (.t 125) (.t 127)⟩,⟨some 129,(some (123,false)),.fieldAddr 2 (.t 128)⟩,⟨some 130,(some (123,false)),.load1 (.t 129)⟩,⟨some 131,(some (123,false)),.bin .eql true 3 (.t 130) (.c (.i 3))⟩,.z 132 (.pick (.t 123) (.c (.bool true)) (.t 131)),.m 133 132,⟨some 134,(some (133,false)),.fieldAddr 4 (.t 7)⟩,⟨some 135,(some (133,false)),.load1 (.t 134)⟩,⟨some 136,(some (133,false)),.bin .geq true 3 (.t 135) (.c (.i 0))⟩,⟨some 137,(some (133,false)),.move (.t 136)⟩,⟨some 138,(some (137,true)),.fieldAddr 0 (.t 1)⟩,⟨some 139,(some (137,true)),.load1 (.t 138)⟩,⟨some 140,(some (137,true)),.fieldAddr 4 (.t 7)⟩,⟨some 141,(some (137,true)),.load1 (.t 140)⟩,⟨some 142,(some (137,true)),.ixAddr 3 (.t 139) (.t 141)⟩,⟨some 143,(some (137,true)),.fieldAddr 2 (.t 142)⟩,⟨some 144,(some (137,true)),.load1 (.t 143)⟩,⟨some 145,(some (137,true)),.bin .eql true 3 (.t 144) (.c (.i 3))⟩,⟨some 146,(some (133,false)),.pick (.t 137) (.t 145) (.c (.bool false))⟩,.z 147 (.pick (.t 133) (.c (.bool true)) (.t 146))]) (.cond (.t 147) (.seq (.ops [.z 2 (.move (.c (.i 2)))]) .ret) .skip)))) (.ops [.m 106 6,.z 107 (.bin .add true 3 (.t 106) (.c (.i 1))),.m 6 107])))))) (.seq (.ops [.z 8 (.move (.c (.i 0)))]) (.seq (.ops [.f 148 0 1,.l 149 148,.z 150 (.lenSl (.t 149)),.z 151 (.mkSl 1 [(.bool false)] (.t 150) (.t 150)),.m 9 151]) (.seq (.seq (.ops [.z 10 (.move (.c (.i 0)))]) (.block 4 (.loop (.seq (.seq (.ops [.m 152 10,.f 153 0 1,.l 154 153,.z 155 (.lenSl (.t 154)),.z 156 (.bin .lss false 3 (.t 152) (.t 155))]) (.cond (.t 156) .skip (.exit 4))) (.seq (.block 5 (.ops [.m 159 9,.m 160 10,.f 161 0 1,.l 162 161,.m 163 10,.z 164 (.ixAddr 3 (.t 162) (.t 163)),.f 165 2 164,.l 166 165,.z 167 (.bin .eql true 3 (.t 166) (.c (.i 1))),.m 168 167,⟨some 169,(some (168,false)),.fieldAddr 0 (.t 1)⟩,⟨some 170,(some (168,false)),.load1 (.t 169)⟩,⟨some 171,(some (168,false)),.move (.t 10)⟩,⟨some 172,(some (168,false)),.ixAddr 3 (.t 170) (.t 171)⟩,⟨some 173,(some (168,false)),.fieldAddr 2 (.t 172)⟩,⟨some 174,(some (168,false)),.load1 (.t 173)⟩,⟨some 175,(some (168,false)),.bin .eql true 3 (.t 174) (.c (.i 2))⟩,.z 176 (.pick (.t 168) (.c (.bool true)) (.t 175)),.z 177 (.ixAddr 1 (.t 159) (.t 160)),⟨none,none,.store 1 (.t 177) (.t 176)⟩])) (.ops [.m 157 10,.z 158 (.bin .add true 3 (.t 157) (.c (.i 1))),.m 10 158])))))) (.seq (.seq (.ops [.z 11 (.move (.c (.i 0)))]) (.block 6 (.loop (.seq (.seq (.ops [.m 178 11,.f 179 1 1,.l 180 179,.z 181 (.lenSl (.t 180)),.z 182 (.bin .lss false 3 (.t 178) (.t 181))]) (.cond (.t 182) .skip (.exit 6))) (.seq (.block 7 (.seq (.seq (.draw [(.f 185 0 1,[]),(.l 186 185,[]),(.f 187 1 1,[]),(.l 188 187,[]),(.m 189 11,[]),(.z 190 (.ixAddr 7 (.t 188) (.t 189)),[]),(.z 191 (.loadN 7 (.t 190)),[]),(.z 192 (.callV (.c (.fn (.func 66) [] [])) [.t 186,.t 191]),[]),(.z 193 (.un .not (.t 192)),[]),(.m 194 193,[]),(⟨some 195,(some (194,false)),.move (.t 9)⟩,[]),(⟨some 196,(some (194,false)),.fieldAddr 1 (.t 1)⟩,[]),(⟨some 197,(some (194,false)),.load1 (.t 196)⟩,[]),(⟨some 198,(some (194,false)),.move (.t 11)⟩,[]),(⟨some 199,(some (194,false)),.ixAddr 7 (.t 197) (.t 198)⟩,[]),(⟨some 200,(some (194,false)),.loadN 7 (.t 199)⟩,[]),(⟨some 201,(some (194,false)),.callV (.c (.fn (.func 67) [] [])) [.t 195,.t 200]⟩,[]),(⟨some 202,(some (194,false)),.un .not (.t 201)⟩,[]),(.z 203 (.pick (.t 194) (.c (.bool true)) (.t 202)),[])]) (.cond (.t 203) (.seq (.ops [.z 2 (.move (.c (.i 2)))]) .ret) .skip)) (.seq (.seq (.ops [.f 204 1 1,.l 205 204,.m 206 11,.z 207 (.ixAddr 7 (.t 205) (.t 206)),.f 208 0 207,.l 209 208]) (.block 8 (.seq (.ops [.z 211 (.bin .eql true 3 (.t 209) (.c (.i 15))),.m 210 211]) (.cond (.t 210) (.ops [.m 212 8,.z 213 (.bin .add true 3 (.t 212) (.c (.i 1))),.m 8 213]) (.seq (.ops [.z 215 (.bin .eql true 3 (.t 209) (.c (.i 16))),.m 214 215]) (.cond (.t 214) (.ops [.m 216 8,.z 217 (.bin .sub true 3 (.t 216) (.c (.i 1))),.m 8 217]) .skip)))))) (.seq (.ops [.m 218 8,.z 219 (.bin .lss true 3 (.t 218) (.c (.i 0))),.m 220 219,⟨some 221,(some (220,false)),.move (.t 8)⟩,⟨some 222,(some (220,false)),.bin .gtr true 3 (.t 221) (.c (.i 4))⟩,.z 223 (.pick (.t 220) (.c (.bool true)) (.t 222))]) (.cond (.t 223) (.seq (.ops [.z 2 (.move (.c (.i 2)))]) .ret) .skip))))) (.ops [.m 183 11,.z 184 (.bin .add true 3 (.t 183) (.c (.i 1))),.m 11 184])))))) (.seq (.seq (.ops [.z 12 (.move (.c (.i 0)))]) (.block 9 (.loop (.seq (.seq (.ops [.m 224 12,.f 225 0 1,.l 226 225,.z 227 (.lenSl (.t 226)),.z 228 (.bin .lss false 3 (.t 224) (.t 227))]) (.cond (.t 228) .skip (.exit 9))) (.seq (.block 10 (.seq (.ops [.f 231 0 1,.l 232 231,.m 233 12,.z 234 (.ixAddr 3 (.t 232) (.t 233)),.f 235 2 234,.l 236 235,.z 237 (.bin .eql true 3 (.t 236) (.c (.i 3))),.m 238 237,⟨some 239,(some (238,true)),.move (.t 9)⟩,⟨some 240,(some (238,true)),.move (.t 12)⟩,⟨some 241,(some (238,true)),.ixAddr 1 (.t 239) (.t 240)⟩,⟨some 242,(some (238,true)),.load1 (.t 241)⟩,⟨some 243,(some (238,true)),.un .not (.t 242)⟩,.z 244 (.pick (.t 238) (.t 243) (.c (.bool false)))]) (.cond (.t 244) (.seq (.ops [.z 2 (.move (.c (.i 2)))]) .ret) .skip))) (.ops [.m 229 12,.z 230 (.bin .add true 3 (.t 229) (.c (.i 1))),.m 12 230])))))) (.seq (.seq (.ops [.m 245 8,.z 246 (.bin .neq true 3 (.t 245) (.c (.i 0)))]) (.cond (.t 246) (.seq (.ops [.z 2 (.move (.c (.i 2)))]) .ret) .skip)) (.seq (.ops [.z 2 (.move (.c (.i 0)))]) .ret)))))))))))))
theorem r_ref19_Check:resFn Tryz.prog 37=some ⟨247,c_ref19_Check.r,[.tmp 2]⟩:=by kernel_rfl
theorem k_ref19_Check:c_ref19_Check.ok=true:=by kernel_rfl
theorem ref19_Check_ok (vs:List Vr) (os rs:List Ko) (hl1:vs.length≤9223372036854775807):FnS Tryz.prog 37 [.agg (kerC vs os rs)] (.i (chkE vs os rs)) []:=by
 refine FnS.val rfl (call_body r_ref19_Check k_ref19_Check (by simp) ?_)
 have bad:chkB vs os rs=false→chkE vs os rs=2:=fun h=>by simp[chkE,h]
 have novars:varsB vs=false→chkE vs os rs=2:=fun h=>bad (by simp[chkB,h])
 by_cases a1:(vs.length:Int) < 1
 ·simp[c_ref19_Check,kerC,a1]
  exact (novars (by unfold varsB; split <;> simp; omega)).symm
 by_cases a2:(256:Int) < (vs.length:Int)
 ·simp[c_ref19_Check,kerC,a1,a2]
  exact (novars (by unfold varsB; split <;> simp; omega)).symm
 by_cases g1:(4096:Int) < (os.length:Int)
 ·simp[c_ref19_Check,kerC,a1,a2,g1]
  exact (bad (by simp[chkB]; omega)).symm
 by_cases g2:(4096:Int) < (rs.length:Int)
 ·simp[c_ref19_Check,kerC,a1,a2,g1,g2]
  exact (bad (by simp[chkB]; omega)).symm
 simp[c_ref19_Check,kerC,a1,a2,g1,g2]
 refine loop_nx (fun ρ D G N=>∃ i p:Nat,D=[]∧N+i=vs.length∧p≤i∧lk ρ 1=.ptr 0 0∧lk ρ 3=.i p∧lk ρ 4=.i i∧0 < G.length∧G[0]?=some (.cells (kerC vs os rs) 0)∧vgo i p (vs.drop i)=vgo 0 0 vs) (N:=vs.length) ⟨0,0,by simp[kerC]⟩ ?_
 rintro N ρ D G ⟨i,p,rfl,hN,hpi,h1,h3,h4,hl,hG,hv⟩ Nx hNx
 by_cases g:i < vs.length
 ·have hg:=at_gv g
  have q3:=vs_three hg
  have hq:=vs_lt g
  rw[drop_gv g] at hv
  have hf:(gv vs i).f=[.i (gv vs i).limbs,.bool (gv vs i).sec,.i (gv vs i).mode]:=rfl
  generalize gv vs i=v at *
  have no:vgo i p (v::vs.drop (i+1))=none→chkE vs os rs=2:=fun h=>novars (by rw[h] at hv; simp[varsB,←hv])
  have next:∀ ρ' G' (p':Nat),vgo (i+1) p' (vs.drop (i+1))=vgo i p (v::vs.drop (i+1))→p'≤i+1→lk ρ' 1=.ptr 0 0→lk ρ' 3=.i p'→lk ρ' 4=.i ((i:Int)+1)→0 < G'.length→G'[0]?=some (.cells (kerC vs os rs) 0)→Nx ρ' [] G':=by
   intro ρ' G' p' e hp' b1 b3 b4 bl bG
   exact hNx _ _ _ ⟨N - 1,by omega,i+1,p',rfl,by omega,hp',b1,b3,by rw[b4]; simp,bl,bG,by rw[e,hv]⟩
  by_cases b1:v.limbs < 1
  ·simp[h1,h3,h4,g,q3,hq,hf,↓old1 hl,hG,kerC,b1]
   exact (no (by simp[vgo,vrBad,b1])).symm
  by_cases b2:512 < v.limbs
  ·simp[h1,h3,h4,g,q3,hq,hf,↓old1 hl,hG,kerC,b1,b2]
   exact (no (by simp[vgo,vrBad,b1,b2])).symm
  by_cases b3:v.mode < 0
  ·simp[h1,h3,h4,g,q3,hq,hf,↓old1 hl,hG,kerC,b1,b2,b3]
   exact (no (by simp[vgo,vrBad,b1,b2,b3])).symm
  by_cases b4:3 < v.mode
  ·simp[h1,h3,h4,g,q3,hq,hf,↓old1 hl,hG,kerC,b1,b2,b3,b4]
   exact (no (by simp[vgo,vrBad,b1,b2,b3,b4])).symm
  by_cases b5:v.mode=0
  ·simp[h1,h3,h4,g,q3,hq,hf,↓old1 hl,hG,kerC,b1,b2,b3,b4,b5]
   repeat (refine⟨by omega,?_⟩)
   exact next _ _ p (by simp[vgo,vrBad,b1,b2,b3,b4,b5]) (by omega) (by simp[h1]) (by simp[h3]) (by simp) (by simp) (by rw[old1 hl]; exact hG)
  have b5':0 < v.mode:=by omega
  by_cases b6:(p:Int) < (i:Int)
  ·simp[h1,h3,h4,g,q3,hq,hf,↓old1 hl,hG,kerC,b1,b2,b3,b4,b5',b6]
   have b6':p < i:=by omega
   exact (no (by simp[vgo,vrBad,b1,b2,b3,b4,b5,b6'])).symm
  have b6':¬ p < i:=by omega
  by_cases m1:v.mode=1
  ·cases hs:v.sec with
   | true =>
    simp[h1,h3,h4,g,q3,hq,hf,↓old1 hl,hG,kerC,b1,b2,m1,b6,hs]
    exact (no (by simp[vgo,vrBad,b1,b2,b6',m1,hs])).symm
   | false =>
    simp[h1,h3,h4,g,q3,hq,hf,↓old1 hl,hG,kerC,b1,b2,m1,b6,hs]
    repeat (refine⟨by omega,?_⟩)
    exact next _ _ (p+1) (by simp[vgo,vrBad,b1,b2,b6',m1,hs]) (by omega) (by simp[h1]) (by simp) (by simp) (by simp) (by rw[old1 hl]; exact hG)
  have m1':1 < v.mode:=by omega
  ·cases hs:v.sec with
   | false =>
    simp[h1,h3,h4,g,q3,hq,hf,↓old1 hl,hG,kerC,b1,b2,b3,b4,b5',b6,m1,m1',hs]
    exact (no (by simp[vgo,vrBad,b1,b2,b3,b4,b5,b6',m1,hs])).symm
   | true =>
    simp[h1,h3,h4,g,q3,hq,hf,↓old1 hl,hG,kerC,b1,b2,b3,b4,b5',b6,m1,m1',hs]
    repeat (refine⟨by omega,?_⟩)
    exact next _ _ (p+1) (by simp[vgo,vrBad,b1,b2,b3,b4,b5,b6',m1,hs]) (by omega) (by simp[h1]) (by simp) (by simp) (by simp) (by rw[old1 hl]; exact hG)
 rw[List.drop_of_length_le (by omega)] at hv
 have hv2:vgo 0 0 vs=some p:=by rw[←hv]; rfl
 by_cases p12:(12:Int) < (p:Int)
 ·simp[h1,h3,h4,g,hG,kerC,p12]
  exact (novars (by simp[varsB,hv2]; omega)).symm
 have c1:1≤vs.length:=by omega
 have c2:vs.length≤256:=by omega
 have c3:p≤12:=by omega
 have hvb:varsB vs=true:=by simp[varsB,hv2,c1,c2,c3]
 simp[h1,h3,h4,g,hG,kerC,p12]
 refine loop_nx (fun ρ D G N=>∃ i:Nat,D=[]∧N+i=rs.length∧lk ρ 1=.ptr 0 0∧lk ρ 6=.i i∧0 < G.length∧G[0]?=some (.cells (kerC vs os rs) 0)∧∀ j,j < i→reqB vs (go rs j)=true) (N:=rs.length) ⟨0,rfl,by omega,by simp[h1],by simp,hl,hG,fun j hj=>by omega⟩ ?_
 clear h1 h3 h4 hG hNx hl
 rintro N ρ D G ⟨i,rfl,hN,h1,h6,hl,hG,hr⟩ Nx hNx
 by_cases g:i < rs.length
 ·have q7:=os_seven (at_go g)
  have hq:=os_lt g
  have hf:(go rs i).f=[.i (go rs i).kind,.i (go rs i).d,.i (go rs i).e,.i (go rs i).a,.i (go rs i).b,.i (go rs i).c,.u (go rs i).imm]:=rfl
  have no:reqB vs (go rs i)=false→chkE vs os rs=2:=fun h=>bad (by
   have:rs.all (reqB vs)=false:=by
    rw[List.all_eq_false]
    exact⟨go rs i,List.mem_of_getElem? (at_go g),by simp[h]⟩
   simp[chkB,this])
  have yes:reqB vs (go rs i)=true→∀ j,j < i+1→reqB vs (go rs j)=true:=fun h j hj=>by
   by_cases e:j=i
   ·rw[e]; exact h
   ·exact hr j (by omega)
  have next:∀ ρ' G',reqB vs (go rs i)=true→lk ρ' 1=.ptr 0 0→lk ρ' 6=.i ((i:Int)+1)→0 < G'.length→G'[0]?=some (.cells (kerC vs os rs) 0)→Nx ρ' [] G':=by
   intro ρ' G' ok b1 b6 bl bG
   exact hNx _ _ _ ⟨N - 1,by omega,i+1,rfl,by omega,b1,by rw[b6]; simp,bl,bG,yes ok⟩
  generalize go rs i=o at *
  by_cases k17:o.kind=17
  ·simp[h1,h6,g,q7,hq,hf,k17,↓old1 hl,hG,kerC]
   have hc:=ref19_need_ok (vsC vs) vs.length o
   rw[hf,k17] at hc
   refine CallL_F hc (bors_self _ (by simp[dats,LV.dat,vsC_dats])) ?_
   cases hn:needB vs.length o with
   | false =>
    simp
    exact (no (by simp[reqB,hn])).symm
   | true =>
    have hin:=need_in k17 hn
    have ha:0≤o.a∧o.a < vs.length:=by
     simp only[needB,Bool.and_eq_true] at hn
     exact thereB_iff.1 hn.2.2.2.1
    have hb:o.b < vs.length:=by
     simp only[needB,Bool.and_eq_true] at hn
     have:=hn.2.2.2.2
     split at this
     ·exact (thereB_iff.1 this).2
     ·simp at this; omega
    obtain⟨a,ea,hav,qa⟩:=(show inV vs o.a from ha).at
    have q2:=vs_at2 qa
    rw[ea] at q2
    simp only[Int.toNat_natCast] at q2
    have hoa:outB vs o.a=decide ((gv vs a).mode=3):=by rw[ea]; simp[outB]
    by_cases m3:(gv vs a).mode=3
    ·simp[h1,h6,↓old1 hl,hG,kerC,ea,hav,nthL_at q2,m3]
     exact (no (by rw[reqB,hoa]; simp[m3])).symm
    by_cases b0:0≤o.b
    ·obtain⟨b,eb,hbv,qb⟩:=(show inV vs o.b from ⟨b0,hb⟩).at
     have q2b:=vs_at2 qb
     rw[eb] at q2b
     simp only[Int.toNat_natCast] at q2b
     have hob:outB vs o.b=decide ((gv vs b).mode=3):=by rw[eb]; simp[outB]
     have b0':(0:Int)≤(b:Int):=by omega
     by_cases n3:(gv vs b).mode=3
     ·simp[h1,h6,↓old1 hl,hG,kerC,ea,hav,nthL_at q2,m3,eb,hbv,b0',nthL_at q2b,n3]
      exact (no (by rw[reqB,hob]; simp[n3])).symm
     ·simp[h1,h6,↓old1 hl,hG,kerC,ea,hav,nthL_at q2,m3,eb,hbv,b0',nthL_at q2b,n3]
      repeat (refine⟨by omega,?_⟩)
      exact next _ _ (by rw[reqB,hoa,hob]; simp[k17,hn,m3,n3]) (by simp[h1]) (by simp) (by simp) (by rw[old1 hl]; exact hG)
    ·have hob:outB vs o.b=false:=by simp[outB,b0]
     simp[h1,h6,↓old1 hl,hG,kerC,ea,hav,nthL_at q2,m3,b0]
     repeat (refine⟨by omega,?_⟩)
     exact next _ _ (by rw[reqB,hoa,hob]; simp[k17,hn,m3]) (by simp[h1]) (by simp) (by simp) (by rw[old1 hl]; exact hG)
  ·simp[h1,h6,g,q7,hq,hf,k17,↓old1 hl,hG,kerC]
   exact (no (by simp[reqB,k17])).symm
 have hreq:rs.all (reqB vs)=true:=by
  rw[List.all_eq_true]
  intro o ho
  obtain⟨j,hj,rfl⟩:=List.mem_iff_getElem.1 ho
  have e:=at_go hj
  rw[List.getElem?_eq_getElem hj] at e
  rw[Option.some.inj e]
  exact hr j (by omega)
 have lv:vs.length≤1048576:=by omega
 simp[h1,h6,g,hG,kerC,lv]
 repeat (refine⟨by omega,?_⟩)
 refine loop_nx (fun ρ D G N=>∃ (i:Nat) (m:List Bool) (q st':Nat),D=[]∧N+i=vs.length∧lk ρ 1=.ptr 0 0∧lk ρ 8=.i 0∧lk ρ 9=.dy q 0∧lk ρ 10=.i i ∧
   0 < G.length∧0 < q∧q < G.length∧G[0]?=some (.cells (kerC vs os rs) 0)∧G[q]?=some (.dyn (m.map .bool) m.length 1 0 st')∧m.length=vs.length∧∀ j,j < i→gb m j=givenB (gv vs j)) (N:=vs.length)
  ⟨0,List.replicate vs.length false,G.length,0,rfl,by omega,by simp[h1],by simp,by simp,by simp,by simp,hl,by simp,by rw[old1 hl]; exact hG,by simp[repB],by simp,by simp⟩ ?_
 clear h1 h6 hG hr hNx hl
 rintro N ρ D G ⟨i,m,q,st',rfl,hN,h1,h8,h9,h10,hl,hq0,hql,hG,hq,hml,hm⟩ Nx hNx
 by_cases g:i < vs.length
 ·have q2:=vs_at2 (at_gv g)
  have hset:=lay_setF LV.bool m i (givenB (gv vs i)) (by omega)
  have next:∀ ρ' G' st'',lk ρ' 1=.ptr 0 0→lk ρ' 8=.i 0→lk ρ' 9=.dy q 0→lk ρ' 10=.i ((i:Int)+1)→G'=G.set q (.dyn (layLV (m.map .bool) i [.bool (givenB (gv vs i))]) m.length 1 0 st'')→Nx ρ' [] G':=by
   rintro ρ' G' st'' b1 b8 b9 b10 rfl
   refine hNx _ _ _ ⟨N - 1,by omega,i+1,m.set i (givenB (gv vs i)),q,st'',rfl,by omega,b1,b8,b9,by rw[b10]; simp,by simpa using hl,hq0,by simpa using hql,?_,?_,by simp[hml],fun j hj=>?_⟩
   ·rw[List.getElem?_set_ne (by omega)]; exact hG
   ·rw[List.getElem?_set_self hql,hset,List.length_set]
   ·rw[gb_setv _ _ _ _ (by omega)]
    split
    ·rename_i e; rw[e]
    ·exact hm j (by omega)
  have hgiv:givenB (gv vs i)=(decide ((gv vs i).mode=1) || decide ((gv vs i).mode=2)):=rfl
  by_cases m1:(gv vs i).mode=1
  ·simp[h1,h9,h10,g,hG,hq,kerC,nthL_at q2,m1,hml]
   repeat (refine⟨by omega,?_⟩)
   exact next _ _ (st'+1) (by simp[h1]) (by simp[h8]) (by simp[h9]) (by simp) (by rw[hgiv]; simp[m1,hml])
  ·simp[h1,h9,h10,g,hG,hq,kerC,nthL_at q2,m1,hml]
   repeat (refine⟨by omega,?_⟩)
   exact next _ _ (st'+1) (by simp[h1]) (by simp[h8]) (by simp[h9]) (by simp) (by rw[hgiv]; simp[m1,hml])
 have hms:m=startM vs:=gb_ext (by simp[startM,hml]) (fun j hj=>by
  rw[hm j (by omega)]
  unfold gb startM
  rw[List.getD_eq_getElem?_getD,List.getElem?_map,at_gv (by omega)]; rfl)
 simp[h1,h8,h9,h10,g,hG,kerC]
 refine loop_nx (fun ρ D G N=>∃ (i:Nat) (m:List Bool) (dp:Int) (q st':Nat),D=[]∧N+i=os.length∧lk ρ 1=.ptr 0 0∧lk ρ 8=.i dp∧lk ρ 9=.dy q 0∧lk ρ 11=.i i ∧
   0 < G.length∧0 < q∧q < G.length∧G[0]?=some (.cells (kerC vs os rs) 0)∧G[q]?=some (.dyn (m.map .bool) m.length 1 0 st')∧m.length=vs.length∧0≤dp∧dp≤4∧ogo vs m dp (os.drop i)=ogo vs (startM vs) 0 os) (N:=os.length)
  ⟨0,m,0,q,st',rfl,by omega,by simp[h1],by simp[h8],by simp[h9],by simp,hl,hq0,hql,hG,hq,hml,by omega,by omega,by simp[hms]⟩ ?_
 clear h1 h8 h9 h10 hG hq hNx hl hq0 hql hml
 rintro N ρ D G ⟨i,m,dp,q,st',rfl,hN,h1,h8,h9,h11,hl,hq0,hql,hG,hq,hml,hd0,hd4,hv2⟩ Nx hNx
 by_cases g:i < os.length
 ·have q7:=os_seven (at_go g)
  have hqq:=os_lt g
  rw[drop_go g] at hv2
  have hf:(go os i).f=[.i (go os i).kind,.i (go os i).d,.i (go os i).e,.i (go os i).a,.i (go os i).b,.i (go os i).c,.u (go os i).imm]:=rfl
  have qk:(osC os)[i * 7]?=some (.i (go os i).kind):=by have:=fm_at Ko.f_len (at_go g) (j:=0) (by omega); simpa [osC,Ko.f] using this
  generalize go os i=o at *
  have no:ogo vs m dp (o::os.drop (i+1))=none→chkE vs os rs=2:=fun h=>bad (by
   rw[h] at hv2
   simp[chkB,←hv2])
  simp[h1,h11,g,q7,hqq,hf,hG,kerC]
  rw[←hf]
  refine CallL_F (ref19_One_ok vs o) (bors_self _ (by simp[dats,LV.dat,vsC_dats,hf])) ?_
  cases ho:oneB vs o with
  | false =>
   simp
   exact (no (by simp[ogo,ho])).symm
  | true =>
  have hin:=one_in ho
  simp[h1,h9,h11,g,q7,hqq,hG,kerC]
  refine ref19_makes_any o hin hml.symm hq (fun ht G' hfr=>?_) (fun ht G' st'' hle hfr hq'=>?_)
  ·simp
   exact (no (by simp[ogo,ho,ht])).symm
  have hG':G'[0]?=some (.cells (kerC vs os rs) 0):=by rw[hfr 0 hl (by omega)]; exact hG
  have hsl:(stepM m o).length=m.length:=by unfold stepM; split <;> simp
  have fin:∀ dp',dp'=dp+dl o.kind→(dp' < 0∨4 < dp'→chkE vs os rs=2)∧(0≤dp'→dp'≤4→ogo vs (stepM m o) dp' (os.drop (i+1))=ogo vs (startM vs) 0 os):=fun dp' e=>by
   subst e
   refine⟨fun h=>no ?_,fun h0 h4=>?_⟩
   ·rw[ogo,if_neg]
    simp only[Bool.and_eq_true,decide_eq_true_eq]
    omega
   ·rw[←hv2,ogo,if_pos]
    simp only[Bool.and_eq_true,decide_eq_true_eq]
    exact⟨ho,ht,h0,h4⟩
  have hsw:∃ dl',dl o.kind=dl'∧-1≤dl'∧dl'≤1∧((o.kind=15∧dl'=1)∨(o.kind≠15∧o.kind=16∧dl'=-1)∨(o.kind≠15∧o.kind≠16∧dl'=0)):=by
   by_cases k1:o.kind=15
   ·exact⟨1,by simp[dl,k1],by omega,by omega,.inl ⟨k1,rfl⟩⟩
   by_cases k2:o.kind=16
   ·exact⟨-1,by simp[dl,k2],by omega,by omega,.inr (.inl ⟨k1,k2,rfl⟩)⟩
   ·exact⟨0,by simp[dl,k1,k2],by omega,by omega,.inr (.inr ⟨k1,k2,rfl⟩)⟩
  obtain⟨dl',e1,e2,e3,hsw⟩:=hsw
  obtain⟨fin1,fin2⟩:=fin (dp+dl') (by rw[e1])
  have next:∀ (dp':Int) (ρ':LEnv),dp'=dp+dl'→0≤dp'→dp'≤4→lk ρ' 1=.ptr 0 0→lk ρ' 8=.i dp'→lk ρ' 9=.dy q 0→lk ρ' 11=.i ((i:Int)+1)→Nx ρ' [] G':=by
   intro dp' ρ' e hd0' hd4' b1 b8 b9 b11
   refine hNx _ _ _ ⟨N - 1,by omega,i+1,stepM m o,dp',q,st'',rfl,by omega,b1,b8,b9,by rw[b11]; simp,by omega,hq0,by omega,hG',by rw[hsl]; exact hq',by rw[hsl,hml],hd0',hd4',?_⟩
   subst e
   exact fin2 hd0' hd4'
  rcases hsw with ⟨k15,rfl⟩ | ⟨k15,k16,rfl⟩ | ⟨k15,k16,rfl⟩
  ·have r0:¬ dp+1 < 0:=by omega
   by_cases d4:4 < dp+1
   ·simp[h1,h8,h11,g,hG',kerC,nthL_at qk,k15,r0,d4]
    repeat (refine⟨by omega,?_⟩)
    exact (fin1 (.inr d4)).symm
   ·simp[h1,h8,h11,g,hG',kerC,nthL_at qk,k15,r0,d4]
    repeat (refine⟨by omega,?_⟩)
    exact next (dp+1) _ (by omega) (by omega) (by omega) (by simp[h1]) (by simp) (by simp[h9]) (by simp)
  ·by_cases r0:dp - 1 < 0
   ·simp[h1,h8,h11,g,hG',kerC,nthL_at qk,k15,k16,r0]
    repeat (refine⟨by omega,?_⟩)
    exact (fin1 (.inl (by omega))).symm
   ·have d4:¬ 4 < dp - 1:=by omega
    simp[h1,h8,h11,g,hG',kerC,nthL_at qk,k15,k16,r0,d4]
    repeat (refine⟨by omega,?_⟩)
    exact next (dp - 1) _ (by omega) (by omega) (by omega) (by simp[h1]) (by simp) (by simp[h9]) (by simp)
  ·have r0:¬ dp < 0:=by omega
   have d4:¬ 4 < dp:=by omega
   simp[h1,h8,h11,g,hG',kerC,nthL_at qk,k15,k16,r0,d4]
   repeat (refine⟨by omega,?_⟩)
   exact next dp _ (by omega) (by omega) (by omega) (by simp[h1]) (by simp[h8]) (by simp[h9]) (by simp)
 have hv3:ogo vs (startM vs) 0 os=some (m,dp):=by
  rw[List.drop_of_length_le (by omega)] at hv2
  rw[←hv2]; rfl
 have l1:os.length≤4096:=by omega
 have l2:rs.length≤4096:=by omega
 have hend:chkB vs os rs=(madeAll vs m && decide (dp=0)):=by simp[chkB,hvb,hreq,hv3,l1,l2]
 simp[h1,h8,h9,h11,g,hG,kerC]
 refine loop_nx (fun ρ D G' N=>∃ i:Nat,D=[]∧G'=G∧N+i=vs.length∧lk ρ 1=.ptr 0 0∧lk ρ 8=.i dp∧lk ρ 9=.dy q 0∧lk ρ 12=.i i∧∀ j,j < i→(gv vs j).mode=3→gb m j=true) (N:=vs.length) ⟨0,rfl,rfl,by omega,by simp[h1],by simp[h8],by simp[h9],by simp,fun j hj=>by omega⟩ ?_
 clear h1 h8 h9 h11 hNx
 rintro N ρ D G' ⟨i,rfl,rfl,hN,h1,h8,h9,h12,ha⟩ Nx hNx
 by_cases g:i < vs.length
 ·have gm:i < m.length:=by omega
  have q1:=map_at (f:=LV.bool) (at_gb gm)
  have q2:=vs_at2 (at_gv g)
  have next:∀ ρ',((gv vs i).mode=3→gb m i=true)→lk ρ' 1=.ptr 0 0→lk ρ' 8=.i dp→lk ρ' 9=.dy q 0→lk ρ' 12=.i ((i:Int)+1)→Nx ρ' [] G':=by
   intro ρ' ok b1 b8 b9 b12
   refine hNx _ _ _ ⟨N - 1,by omega,i+1,rfl,rfl,by omega,b1,b8,b9,by rw[b12]; simp,fun j hj hm3=>?_⟩
   by_cases e:j=i
   ·subst e; exact ok hm3
   ·exact ha j (by omega) hm3
  by_cases m3:(gv vs i).mode=3
  ·cases hb:gb m i with
   | false =>
    simp[h1,h9,h12,g,hG,hq,kerC,gm,nthL_at q1,nthL_at q2,m3,hb]
    have:madeAll vs m=false:=by
     unfold madeAll
     rw[List.all_eq_false]
     exact⟨i,List.mem_range.2 g,by simp[m3,hb]⟩
    exact (bad (by rw[hend,this]; rfl)).symm
   | true =>
    simp[h1,h9,h12,g,hG,hq,kerC,gm,nthL_at q1,nthL_at q2,m3,hb]
    repeat (refine⟨by omega,?_⟩)
    exact next _ (fun _=>hb) (by simp[h1]) (by simp[h8]) (by simp[h9]) (by simp)
  ·simp[h1,h9,h12,g,hG,kerC,nthL_at q2,m3]
   repeat (refine⟨by omega,?_⟩)
   exact next _ (fun h=>absurd h m3) (by simp[h1]) (by simp[h8]) (by simp[h9]) (by simp)
 have hall:madeAll vs m=true:=by
  unfold madeAll
  rw[List.all_eq_true]
  intro j hj
  have hj:=List.mem_range.1 hj
  by_cases hm3:(gv vs j).mode=3
  ·simp[ha j (by omega) hm3]
  ·simp[hm3]
 by_cases d0:dp=0
 ·simp[h1,h8,h12,g,hG,kerC,d0]
  simp[chkE,hend,hall,d0]
 ·simp[h1,h8,h12,g,hG,kerC,d0]
  simp[chkE,hend,d0]
end Go.Proofs.YtnbnhnjffiagmaaGreat
