/- Limb programs, by the document: which may be. -/
import Derived.Test.YtodjkjimaheggaaGreatSvG3
import Derived.Test.YtodjkjimaheggaaGreatFnMa
namespace Go.Proofs.YtodjkjimaheggaaGreat
open Go.Sv
set_option linter.unusedSimpArgs false
set_option maxRecDepth 10000
def z3v:LC:=(.seq (.ops [.z 1 (.box (.t 0)),.z 2 (.move (.c (.i 0))),.z 3 (.move (.c (.i 0)))]) (.seq (.seq (.ops [.f 15 0 1,.l 16 15,.z 17 (.bin .gtr true 3 (.t 16) (.c (.i 64))),.m 18 17,⟨some 19,(some (18,false)),.fieldAddr 1 (.t 1)⟩,⟨some 20,(some (18,false)),.load1 (.t 19)⟩,⟨some 21,(some (18,false)),.lenSl (.t 20)⟩,⟨some 22,(some (18,false)),.bin .gtr true 3 (.t 21) (.c (.i 32))⟩,.z 23 (.pick (.t 18) (.c (.bool true)) (.t 22)),.m 24 23,⟨some 25,(some (24,false)),.fieldAddr 2 (.t 1)⟩,⟨some 26,(some (24,false)),.load1 (.t 25)⟩,⟨some 27,(some (24,false)),.lenSl (.t 26)⟩,⟨some 28,(some (24,false)),.bin .gtr true 3 (.t 27) (.c (.i 65536))⟩,.z 29 (.pick (.t 24) (.c (.bool true)) (.t 28))]) (.cond (.t 29) (.seq (.ops [.z 2 (.move (.c (.i 0))),.z 3 (.move (.c (.i 3)))]) .ret) .skip)) (.seq (.seq (.ops [.z 4 (.move (.c (.i 0)))]) (.block 0 (.loop (.seq (.seq (.ops [.m 30 4,.f 31 1 1,.l 32 31,.z 33 (.lenSl (.t 32)),.z 34 (.bin .lss false 3 (.t 30) (.t 33))]) (.cond (.t 34) .skip (.exit 0))) (.seq (.block 1 (.seq (.ops [.f 37 1 1,.l 38 37,.m 39 4,.z 40 (.ixAddr 3 (.t 38) (.t 39)),.f 41 0 40,.l 42 41,.z 43 (.bin .gtr true 3 (.t 42) (.c (.i 65536)))]) (.cond (.t 43) (.seq (.ops [.z 2 (.move (.c (.i 0))),.z 3 (.move (.c (.i 3)))]) .ret) .skip))) (.ops [.m 35 4,.z 36 (.bin .add true 3 (.t 35) (.c (.i 1))),.m 4 36])))))) (.seq (.seq (.ops [.f 44 0 1,.l 45 44,.z 46 (.bin .lss true 3 (.t 45) (.c (.i 0)))]) (.cond (.t 46) (.seq (.ops [.z 2 (.move (.c (.i 0))),.z 3 (.move (.c (.i 2)))]) .ret) .skip)) (.seq (.seq (.ops [.z 5 (.move (.c (.i 0)))]) (.block 2 (.loop (.seq (.seq (.ops [.m 47 5,.f 48 1 1,.l 49 48,.z 50 (.lenSl (.t 49)),.z 51 (.bin .lss false 3 (.t 47) (.t 50))]) (.cond (.t 51) .skip (.exit 2))) (.seq (.block 3 (.seq (.ops [.f 54 1 1,.l 55 54,.m 56 5,.z 57 (.ixAddr 3 (.t 55) (.t 56)),.f 58 0 57,.l 59 58,.z 60 (.bin .lss true 3 (.t 59) (.c (.i 1))),.m 61 60,⟨some 62,(some (61,false)),.fieldAddr 1 (.t 1)⟩,⟨some 63,(some (61,false)),.load1 (.t 62)⟩,⟨some 64,(some (61,false)),.move (.t 5)⟩,⟨some 65,(some (61,false)),.ixAddr 3 (.t 63) (.t 64)⟩,⟨some 66,(some (61,false)),.fieldAddr 1 (.t 65)⟩,⟨some 67,(some (61,false)),.load1 (.t 66)⟩,⟨some 68,(some (61,false)),.bin .lss true 3 (.t 67) (.c (.i 1))⟩,.z 69 (.pick (.t 61) (.c (.bool true)) (.t 68)),.m 70 69,⟨some 71,(some (70,false)),.fieldAddr 1 (.t 1)⟩,⟨some 72,(some (70,false)),.load1 (.t 71)⟩,⟨some 73,(some (70,false)),.move (.t 5)⟩,⟨some 74,(some (70,false)),.ixAddr 3 (.t 72) (.t 73)⟩,⟨some 75,(some (70,false)),.fieldAddr 1 (.t 74)⟩,⟨some 76,(some (70,false)),.load1 (.t 75)⟩,⟨some 77,(some (70,false)),.bin .gtr true 3 (.t 76) (.c (.i 3))⟩,.z 78 (.pick (.t 70) (.c (.bool true)) (.t 77))]) (.cond (.t 78) (.seq (.ops [.z 2 (.move (.c (.i 0))),.z 3 (.move (.c (.i 2)))]) .ret) .skip))) (.ops [.m 52 5,.z 53 (.bin .add true 3 (.t 52) (.c (.i 1))),.m 5 53])))))) (.seq (.ops [.f 79 0 1,.l 80 79,.z 81 (.mkSl 1 [(.bool false)] (.t 80) (.t 80)),.m 6 81]) (.seq (.ops [.z 7 (.move (.c .nilSl))]) (.seq (.seq (.ops [.z 8 (.move (.c (.i 0)))]) (.block 4 (.loop (.seq (.seq (.ops [.m 82 8,.f 83 2 1,.l 84 83,.z 85 (.lenSl (.t 84)),.z 86 (.bin .lss false 3 (.t 82) (.t 85))]) (.cond (.t 86) .skip (.exit 4))) (.seq (.block 5 (.seq (.ops [.f 89 2 1,.l 90 89,.m 91 8,.z 92 (.ixAddr 8 (.t 90) (.t 91)),.z 93 (.loadN 8 (.t 92)),.z 9 (.alloc [(.i 0),(.i 0),(.i 0),(.i 0),(.i 0),(.i 0),(.i 0),(.u 0)]),⟨none,none,.store 8 (.t 9) (.t 93)⟩]) (.seq (.seq (.ops [.z 94 (.loadN 3 (.t 1)),.z 95 (.loadN 8 (.t 9)),.z 96 (.callV (.c (.fn (.func 141) [] [])) [.t 94,.t 95]),.z 97 (.un .not (.t 96))]) (.cond (.t 97) (.seq (.ops [.m 98 8,.m 2 98,.z 3 (.move (.c (.i 2)))]) .ret) .skip)) (.seq (.seq (.ops [.f 99 0 9,.l 100 99,.z 101 (.bin .eql true 3 (.t 100) (.c (.i 17)))]) (.cond (.t 101) (.seq (.seq (.ops [.m 102 7,.z 103 (.lenSl (.t 102)),.z 104 (.bin .eql true 3 (.t 103) (.c (.i 0)))]) (.cond (.t 104) (.seq (.ops [.m 105 8,.m 2 105,.z 3 (.move (.c (.i 9)))]) .ret) .skip)) (.seq (.ops [.m 106 6,.m 107 7,.m 108 7,.z 109 (.lenSl (.t 108)),.z 110 (.bin .sub true 3 (.t 109) (.c (.i 1))),.z 111 (.ixAddr 1 (.t 107) (.t 110)),.l 112 111,.z 113 (.ixAddr 1 (.t 106) (.t 112)),⟨none,none,.store 1 (.t 113) (.c (.bool false))⟩]) (.seq (.ops [.m 114 7,.m 115 7,.z 116 (.lenSl (.t 115)),.z 117 (.bin .sub true 3 (.t 116) (.c (.i 1))),.z 118 (.slSl 1 (.t 114) none (some (.t 117))),.m 7 118]) (.exit 5)))) .skip)) (.seq (.draw [(.z 119 (.loadN 8 (.t 9)),[]),(.z 121 (.loadN 8 (.t 9)),[]),(.z 120 (.callV (.c (.fn (.func 142) [] [])) [.t 119]),[(.z 121 (.loadN 8 (.t 9)),false)]),(.z 122 (.callV (.c (.fn (.func 143) [] [])) [.t 121]),[]),(.m 10 120,[]),(.m 11 122,[])]) (.seq (.seq (.ops [.z 12 (.move (.c (.i 0)))]) (.block 6 (.loop (.seq (.seq (.ops [.m 123 12,.m 124 10,.z 125 (.lenSl (.t 124)),.z 126 (.bin .lss false 3 (.t 123) (.t 125))]) (.cond (.t 126) .skip (.exit 6))) (.seq (.block 7 (.seq (.ops [.m 129 7,.m 130 10,.m 131 12,.z 132 (.ixAddr 1 (.t 130) (.t 131)),.l 133 132,.z 134 (.callV (.c (.fn (.func 144) [] [])) [.t 129,.t 133])]) (.cond (.t 134) (.seq (.ops [.m 135 8,.m 2 135,.z 3 (.move (.c (.i 9)))]) .ret) .skip))) (.ops [.m 127 12,.z 128 (.bin .add true 3 (.t 127) (.c (.i 1))),.m 12 128])))))) (.seq (.seq (.ops [.f 136 0 9,.l 137 136,.z 138 (.bin .eql true 3 (.t 137) (.c (.i 16))),.m 139 138,⟨some 140,(some (139,true)),.move (.t 6)⟩,⟨some 141,(some (139,true)),.fieldAddr 1 (.t 9)⟩,⟨some 142,(some (139,true)),.load1 (.t 141)⟩,⟨some 143,(some (139,true)),.ixAddr 1 (.t 140) (.t 142)⟩,⟨some 144,(some (139,true)),.load1 (.t 143)⟩,.z 145 (.pick (.t 139) (.t 144) (.c (.bool false)))]) (.cond (.t 145) (.seq (.ops [.m 146 8,.m 2 146,.z 3 (.move (.c (.i 9)))]) .ret) .skip)) (.seq (.seq (.ops [.f 147 0 9,.l 148 147,.z 149 (.bin .eql true 3 (.t 148) (.c (.i 16))),.m 150 149,⟨some 151,(some (150,true)),.move (.t 7)⟩,⟨some 152,(some (150,true)),.lenSl (.t 151)⟩,⟨some 153,(some (150,true)),.bin .eql true 3 (.t 152) (.c (.i 8))⟩,.z 154 (.pick (.t 150) (.t 153) (.c (.bool false)))]) (.cond (.t 154) (.seq (.ops [.m 155 8,.m 2 155,.z 3 (.move (.c (.i 10)))]) .ret) .skip)) (.seq (.seq (.ops [.z 13 (.move (.c (.i 0)))]) (.block 8 (.loop (.seq (.seq (.ops [.m 156 13,.m 157 11,.z 158 (.lenSl (.t 157)),.z 159 (.bin .lss false 3 (.t 156) (.t 158))]) (.cond (.t 159) .skip (.exit 8))) (.seq (.block 9 (.seq (.ops [.m 162 6,.m 163 11,.m 164 13,.z 165 (.ixAddr 1 (.t 163) (.t 164)),.l 166 165,.z 167 (.ixAddr 1 (.t 162) (.t 166)),.l 168 167,.z 169 (.un .not (.t 168))]) (.cond (.t 169) (.seq (.ops [.m 170 8,.m 2 170,.z 3 (.move (.c (.i 5)))]) .ret) .skip))) (.ops [.m 160 13,.z 161 (.bin .add true 3 (.t 160) (.c (.i 1))),.m 13 161])))))) (.seq (.seq (.ops [.z 14 (.move (.c (.i 0)))]) (.block 10 (.loop (.seq (.seq (.ops [.m 171 14,.m 172 10,.z 173 (.lenSl (.t 172)),.z 174 (.bin .lss false 3 (.t 171) (.t 173))]) (.cond (.t 174) .skip (.exit 10))) (.seq (.block 11 (.ops [.m 177 6,.m 178 10,.m 179 14,.z 180 (.ixAddr 1 (.t 178) (.t 179)),.l 181 180,.z 182 (.ixAddr 1 (.t 177) (.t 181)),⟨none,none,.store 1 (.t 182) (.c (.bool true))⟩])) (.ops [.m 175 14,.z 176 (.bin .add true 3 (.t 175) (.c (.i 1))),.m 14 176])))))) (.seq (.ops [.f 183 0 9,.l 184 183,.z 185 (.bin .eql true 3 (.t 184) (.c (.i 16)))]) (.cond (.t 185) (.ops [.m 186 7,.f 187 1 9,.l 188 187,.z 189 (.buildSl 1 1 [(.i 0)] [(0,1,.t 188)]),.z 190 (.appG 1 (.t 186) (.t 189)),.m 7 190]) .skip)))))))))))) (.ops [.m 87 8,.z 88 (.bin .add true 3 (.t 87) (.c (.i 1))),.m 8 88])))))) (.seq (.seq (.ops [.m 191 7,.z 192 (.lenSl (.t 191)),.z 193 (.bin .gtr true 3 (.t 192) (.c (.i 0)))]) (.cond (.t 193) (.seq (.ops [.f 194 2 1,.l 195 194,.z 196 (.lenSl (.t 195)),.m 2 196,.z 3 (.move (.c (.i 9)))]) .ret) .skip)) (.seq (.ops [.f 197 2 1,.l 198 197,.z 199 (.lenSl (.t 198)),.m 2 199,.z 3 (.move (.c (.i 0)))]) .ret))))))))))
theorem r_ref12_Check:z0f Tryz.prog 78=some ⟨200,z3v.r,[.tmp 2,.tmp 3]⟩:=by kernel_rfl
theorem k_ref12_Check:z3v.ok=true:=by kernel_rfl
theorem zie {m:List Bool} {l:List Int} (h:∀ x∈l,z3d m x=true):(l.any fun r=>!z3d m r)=false:=by
 rw[List.any_eq_false]; intro x hx; simp[h x hx]
theorem zni {m:List Bool} {l:List Int} {x:Int} (hx:x∈l) (h:z3d m x=false):(l.any fun r=>!z3d m r)=true:=by
 rw[List.any_eq_true]; exact⟨x,hx,by simp[h]⟩
theorem zgd {l:List Int} {j:Nat} (h:j < l.length):l.take (j+1)=l.take j++[gd l j]:=by
 rw[List.take_succ_eq_append_getElem h]; simp[gd,List.getD_eq_getElem?_getD,h]
theorem zn5 {l:List Int} {j:Nat} (h:j < l.length):gd l j∈l:=by
 simp[gd,List.getD_eq_getElem?_getD,h]
theorem za0 {regs:Int} {bs:List Bf} {o:Lo} (h:z0p regs bs o=true):(∀ x∈z0u o,0≤x∧x < regs)∧(∀ x∈z08 o,0≤x∧x < regs)∧(o.kind=16→0≤o.d∧o.d < regs):=by
 unfold z0p at h
 simp only[Bool.and_eq_true,decide_eq_true_eq] at h
 obtain⟨⟨k1,k2⟩,d,e,a,b,c,_⟩:=h
 have f1:∀ x,z06 regs x true=true→0≤x∧x < regs:=fun x h=>by
  unfold z06 at h; simpa using h
 rcases zdr o.kind with h | h | h | h | h | h | h | h | h | h | h | h | h | h | h | h | h | h | h
 case inl=>omega
 case inr.inr.inr.inr.inr.inr.inr.inr.inr.inr.inr.inr.inr.inr.inr.inr.inr.inr=>omega
 case inr.inr.inr.inr.inr.inr.inr.inr.inr.inr.inr.inr.inr.inr.inl | inr.inr.inr.inr.inr.inr.inr.inr.inr.inr.inr.inr.inr.inr.inr.inl =>
  simp[h,hasD,hasE,hasA,z40,z3z,memK,z06] at d e a b c
  by_cases ha:o.a=-1 <;> simp[ha] at a <;> simp[z0u,z08,h,ha] <;> omega
 all_goals
  simp[h,hasD,hasE,hasA,z40,z3z,memK,z06] at d e a b c
  simp[z0u,z08,h]
  try omega
theorem zrz (o:Lo):(z08 o).length≤2:=by
 unfold z08; repeat' split
 all_goals simp
theorem zs6 (o:Lo):(z0u o).length≤3:=by
 unfold z0u; repeat' split
 all_goals simp
theorem z82 (regs:Int) (bs:List Bf) (os:List Lo):FnS Tryz.prog 78 [.agg (lpV regs bs os)] (.tup [.i (chkR regs bs os).1,.i (chkR regs bs os).2]) []:=by
 refine FnS.val rfl (z01 r_ref12_Check k_ref12_Check (by simp) ?_)
 by_cases g1:64 < regs
 ·simp[z3v,lpV,chkR,g1]
 by_cases g2:32 < bs.length
 ·have g2':(32:Int) < bs.length:=by omega
  simp[z3v,lpV,chkR,g1,g2,g2']
 have g2':¬ (32:Int) < bs.length:=by omega
 by_cases g3:65536 < os.length
 ·have g3':(65536:Int) < os.length:=by omega
  simp[z3v,lpV,chkR,g1,g2,g2',g3,g3']
 have g3':¬ (65536:Int) < os.length:=by omega
 obtain⟨R,hR⟩:∃ R,chkR regs bs os=R:=⟨_,rfl⟩
 rw[hR]
 unfold chkR at hR
 rw[if_neg (by omega)] at hR
 simp[z3v,lpV,g1,g2,g2',g3,g3']
 refine z0m (fun ρ D G N=>∃ i:Nat,D=[]∧G=[.cells (lpV regs bs os) 0]∧N+i=bs.length∧lk ρ 1=.ptr 0 0∧lk ρ 4=.i i∧∀ j,j < i→¬ 65536 < (gbf bs j).size) (N:=bs.length) ⟨0,rfl,by simp[lpV],by omega,by simp,by simp,fun j h=>by omega⟩ ?_
 rintro N ρ D G ⟨i,rfl,rfl,hN,h1,h4,hp⟩ Nx hNx
 by_cases g:i < bs.length
 ·have q0:=zbi (z33 g)
  have hm:gbf bs i∈bs:=List.mem_of_getElem? (z33 g)
  by_cases e:65536 < (gbf bs i).size
  ·have ha:(bs.any fun b=>decide (65536 < b.size))=true:=List.any_eq_true.2 ⟨_,hm,by simpa using e⟩
   rw[if_pos ha] at hR
   subst hR
   simp[h1,h4,lpV,g,z05 q0,e]
  ·simp[h1,h4,lpV,g,z05 q0,e]
   refine⟨by omega,hNx _ _ _ ⟨N - 1,by omega,i+1,rfl,by simp[lpV],by omega,by simp[h1],by simp,fun j hj=>?_⟩⟩
   by_cases q:j=i
   ·rw[q]; exact e
   ·exact hp j (by omega)
 have ha:¬ (bs.any fun b=>decide (65536 < b.size))=true:=by
  rw[List.any_eq_true]
  rintro⟨b,hb,h⟩
  obtain⟨j,hj,rfl⟩:=List.mem_iff_getElem.1 hb
  have:=hp j (by omega)
  have h2:=z33 hj
  rw[List.getElem?_eq_getElem hj] at h2
  rw[←Option.some.inj h2] at this
  exact this (by simpa using h)
 rw[if_neg ha] at hR
 clear ha hp
 by_cases g4:regs < 0
 ·rw[if_pos g4] at hR
  subst hR
  simp[h1,h4,lpV,g,g4]
 rw[if_neg g4] at hR
 have e0:¬ i < bs.length:=g
 simp[h1,h4,lpV,e0,g4]
 refine z0m (fun ρ D G N=>∃ i:Nat,D=[]∧G=[.cells (lpV regs bs os) 0]∧N+i=bs.length∧lk ρ 1=.ptr 0 0∧lk ρ 5=.i i∧∀ j,j < i→¬ ((gbf bs j).size < 1∨(gbf bs j).kind < 1∨3 < (gbf bs j).kind)) (N:=bs.length) ⟨0,rfl,by simp[lpV],by omega,by simp[h1],by simp,fun j h=>by omega⟩ ?_
 clear h1 h4 hN hNx Nx ρ N e0 g
 rintro N ρ D G ⟨i,rfl,rfl,hN,h1,h5,hp⟩ Nx hNx
 by_cases g:i < bs.length
 ·have q0:=zbi (z33 g)
  have q1:=zej (z33 g)
  have hm:gbf bs i∈bs:=List.mem_of_getElem? (z33 g)
  have bad:((gbf bs i).size < 1∨(gbf bs i).kind < 1∨3 < (gbf bs i).kind)→R=(0,2):=fun e=>by
   have ha:(bs.any fun b=>decide (b.size < 1) || (decide (b.kind < 1) || decide (3 < b.kind)))=true:=List.any_eq_true.2 ⟨_,hm,by simpa using e⟩
   rw[if_pos ha] at hR
   exact hR.symm
  by_cases e1:(gbf bs i).size < 1
  ·rw[bad (.inl e1)]
   simp[h1,h5,lpV,g,z05 q0,z05 q1,e1]
  by_cases e2:(gbf bs i).kind < 1
  ·rw[bad (.inr (.inl e2))]
   simp[h1,h5,lpV,g,z05 q0,z05 q1,e1,e2]
  by_cases e3:3 < (gbf bs i).kind
  ·rw[bad (.inr (.inr e3))]
   simp[h1,h5,lpV,g,z05 q0,z05 q1,e1,e2,e3]
  simp[h1,h5,lpV,g,z05 q0,z05 q1,e1,e2,e3]
  refine⟨by omega,hNx _ _ _ ⟨N - 1,by omega,i+1,rfl,by simp[lpV],by omega,by simp[h1],by simp,fun j hj=>?_⟩⟩
  by_cases q:j=i
  ·rw[q]; omega
  ·exact hp j (by omega)
 have ha:¬ (bs.any fun b=>decide (b.size < 1) || (decide (b.kind < 1) || decide (3 < b.kind)))=true:=by
  rw[List.any_eq_true]
  rintro⟨b,hb,h⟩
  obtain⟨j,hj,rfl⟩:=List.mem_iff_getElem.1 hb
  have:=hp j (by omega)
  have h2:=z33 hj
  rw[List.getElem?_eq_getElem hj] at h2
  rw[←Option.some.inj h2] at this
  exact this (by simpa using h)
 rw[if_neg ha] at hR
 clear ha hp
 obtain⟨r,rfl⟩:=Int.eq_ofNat_of_zero_le (show 0≤regs by omega)
 have hr64:r≤64:=by omega
 simp[h1,h5,lpV,g]
 refine⟨by omega,?_⟩
 refine z0m (fun ρ D G N=>∃ (i st:Nat) (m:List Bool) (ls:List Int) (v:LV),D=[]∧N+i=os.length∧lk ρ 1=.ptr 0 0∧lk ρ 6=.dy 1 0∧lk ρ 7=v∧lk ρ 8=.i i∧G[0]?=some (.cells (lpV r bs os) 0)∧G[1]?=some (.dyn (m.map .bool) r 1 0 st)∧m.length=r∧StD 2 G v 1 ls.length (ls.map .i)∧2≤G.length ∧
   (∀ x∈ls,0≤x∧x < r)∧ls.length≤8∧goR r bs i m ls (os.drop i)=R) (N:=os.length)
  ⟨0,0,List.replicate r false,[],.nilSl,rfl,by omega,by simp[h1],by simp,by simp,by simp,by simp[lpV],by simp[repBs],by simp,StD.nil,by simp,by simp,by simp,by simpa using hR⟩ ?_
 clear h1 h5 hN hNx Nx ρ N hR g
 rintro N ρ D G ⟨i,st,m,ls,v,rfl,hN,h1,h6,h7,h8,hG0,hG1,hml,hst,hG2,hls,hl8,hR⟩ Nx hNx
 by_cases g:i < os.length
 case neg =>
  rw[List.drop_of_length_le (by omega)] at hR
  unfold goR at hR
  by_cases hn:ls=[]
  ·rw[if_pos hn] at hR
   subst hR hn
   simp[h1,h8,hG0,lpV,g,h7]
   refine hst.lenL ?_
   simp[h1,hG0,lpV]
   omega
  ·rw[if_neg hn] at hR
   subst hR
   have hp:0 < (ls.length:Int):=by
    have:=List.length_pos_iff.2 hn; omega
   simp[h1,h8,hG0,lpV,g,h7]
   refine hst.lenL ?_
   simp[hp,h1,hG0,lpV]
   exact⟨fun _=>by omega,hn⟩
 have ho:=zmq g
 rw[zj6 g] at hR
 unfold goR at hR
 have ho8:=zfc ho
 have hlt:=zs9 g
 generalize glo os i=o at *
 have hC:o.f=[.i o.kind,.i o.d,.i o.e,.i o.a,.i o.b,.i o.c,.i o.buf,.u o.imm]:=rfl
 have l0:0 < G.length:=by omega
 have l1:1 < G.length:=by omega
 have p0:∀ x:List LObj,(G++x)[0]?=some _:=fun x=>(oldP l0).trans hG0
 simp[h1,h8,hG0,lpV,g,ho8,hlt,hC,↓p0]
 have hfd:=zfr r bs os o
 rw[lpV,hC] at hfd
 refine z02 hfd (bors_self _ (by simp[dats,LV.dat,z0o,z0s])) ?_
 cases hf:z0p r bs o with
 | false =>
  have hs1:(z7r r bs m ls o)=(2,m,ls):=by unfold z7r; rw[if_pos hf]
  rw[hs1] at hR
  simp at hR
  subst hR
  simp[h8]
 | true =>
 obtain⟨ht1,hm1,hd1⟩:=za0 hf
 have hol:os.length≤65536:=by omega
 have lay1':∀ (l:List LV) (i:Nat) (x:LV),i < l.length→z0w l i [x]=l.set i x:=fun l i x h=>by
  rw[List.set_eq_take_append_cons_drop,if_pos h]; simp[z0w]
 have next:∀ (ρ':LEnv) (G':z03) (m':List Bool) (ls':List Int) (v':LV) (st':Nat),z7r r bs m ls o=(0,m',ls')→lk ρ' 1=.ptr 0 0→lk ρ' 6=.dy 1 0→lk ρ' 7=v'→lk ρ' 8=.i ((i:Int)+1)→G'[0]?=some (.cells (lpV r bs os) 0)→G'[1]?=some (.dyn (m'.map .bool) r 1 0 st')→m'.length=r→StD 2 G' v' 1 ls'.length (ls'.map .i)→2≤G'.length→(∀ x∈ls',0≤x∧x < (r:Int))→ls'.length≤8→Nx ρ' [] G':=by
  intro ρ' G' m' ls' v' st' hs a1 a6 a7 a8 b0 b1 b2 b3 b4 b5 b6
  rw[hs] at hR
  exact hNx _ _ _ ⟨N - 1,by omega,i+1,st',m',ls',v',rfl,by omega,a1,a6,a7,by rw[a8]; simp,b0,b1,b2,b3,b4,b5,b6,by simpa using hR⟩
 have q0:∀ x:List LObj,(G++x)[0]?=some (.cells (lpV r bs os) 0):=fun x=>(oldP l0).trans hG0
 have q1:∀ x:List LObj,(G++x)[1]?=some (.dyn (m.map .bool) r 1 0 st):=fun x=>(oldP l1).trans hG1
 have hstp:∀ x,StD 2 (G++x) v 1 ls.length (ls.map .i):=fun x=>hst.push_end
 by_cases k17:o.kind=17
 ·have hstep0:ls=[]→z7r r bs m ls o=(9,m,ls):=fun e=>by
   unfold z7r; rw[if_neg (by rw[hf]; decide),if_pos k17,e]; rfl
  have hstep1:∀ l' d,ls=l'++[d]→z7r r bs m ls o=(0,m.set d.toNat false,l'):=fun l' d e=>by
   unfold z7r; rw[if_neg (by rw[hf]; decide),if_pos k17,e]; simp
  simp[k17,h7]
  refine (hstp _).lenL ?_
  by_cases hn:ls=[]
  ·rw[hstep0 hn] at hR
   subst hn
   simp at hR
   subst hR
   simp[h8]
  ·obtain⟨ls',d,rfl⟩:∃ ls' d,ls=ls'++[d]:=⟨ls.dropLast,ls.getLast hn,(List.dropLast_concat_getLast hn).symm⟩
   obtain⟨d0,dr⟩:=hls d (by simp)
   obtain⟨dn,rfl⟩:=Int.eq_ofNat_of_zero_le d0
   have hdn:dn < r:=by omega
   have hll:ls'.length≤8:=by simp at hl8; omega
   have hstep:=hstep1 ls' dn rfl
   simp only[Int.toNat_natCast] at hstep
   simp
   refine (hstp _).lenL ?_
   simp
   refine⟨by omega,(hstp _).at1 (by omega) (by simp; omega) fun a ha=>?_⟩
   simp
   refine ha _ ?_
   have e1:z0w (m.map LV.bool) dn [.bool false]=(m.set dn false).map LV.bool:=by
    rw[lay1' _ _ _ (by simp; omega),List.map_set]
   have hx:(List.map LV.i ls'++[LV.i (dn:Int)])[ls'.length]?=some (.i (dn:Int)):=by
    rw[List.getElem?_append_right (by simp)]; simp
   have hst3:∀ (x:List LObj) (ob:LObj),StD 2 ((G++x).set 1 ob) v 1 (ls'++[(dn:Int)]).length ((ls'++[(dn:Int)]).map .i):=fun x ob=>(hstp x).set_lt (by omega)
   rw[List.map_append,List.map_singleton]
   simp only[Int.toNat_natCast]
   refine⟨_,hx,?_⟩
   simp[h6,↓q1,hdn,hml,e1,h7]
   refine⟨by omega,(hst3 _ _).lenL ?_⟩
   simp
   refine⟨by omega,(hst3 _ _).cut (m:=ls'.length) (by simp) (fun K' k'=>k') (fun d K' k'=>⟨by omega,k'⟩) fun v' hs'=>?_⟩
   simp[h8]
   rw[List.map_append,List.take_left' (by simp)] at hs'
   refine⟨by omega,next _ _ (m.set dn false) ls' v' (st+1) hstep (by simp[h1]) (by simp[h6]) (by simp) (by simp) ?_ ?_ (by simpa using hml) hs' (by simp; omega) (fun x hx=>hls x (by simp[hx])) hll⟩
   ·rw[List.getElem?_set_ne (by omega)]; exact q0 _
   ·rw[←List.map_set]; exact List.getElem?_set_self (by simp; omega)
 have hstep:z7r r bs m ls o=(if (z08 o).any (fun r=>ls.contains r)=true then (9,m,ls)
   else if o.kind=16∧z3d m o.d=true then (9,m,ls)
   else if o.kind=16∧ls.length=8 then (10,m,ls)
   else if (z0u o).any (fun r=>!z3d m r)=true then (5,m,ls)
   else (0,(z08 o).foldl (fun m r=>m.set r.toNat true) m,if o.kind=16 then ls++[o.d] else ls)):=by
  unfold z7r; rw[if_neg (by rw[hf]; decide),if_neg k17]
 simp[k17]
 refine z1p (zi1 o) (by simp[dats,LV.dat]) ?_
 simp
 refine z1p (zhz o) (by simp[dats,LV.dat]) ?_
 simp
 have hz0:=q0 [.cells o.f 1]
 have hz1:=q1 [.cells o.f 1]
 have hzo:(G++[LObj.cells o.f 1])[G.length]?=some (.cells o.f 1):=List.getElem?_concat_length
 have hzs:=hstp [.cells o.f 1]
 have hzl:(G++[LObj.cells o.f 1]).length=G.length+1:=by simp
 rw[hC] at hz0 hz1 hzo hzs hzl
 generalize G++[LObj.cells [.i o.kind,.i o.d,.i o.e,.i o.a,.i o.b,.i o.c,.i o.buf,.u o.imm] 1]=G1 at *
 generalize G.length=z at *
 have hmk:=zrz o
 have htk:=zs6 o
 have hso:=hC ▸ hzo
 refine z0m (fun ρ D G N=>∃ j:Nat,D=[]∧N+j=(z08 o).length∧lk ρ 1=.ptr 0 0∧lk ρ 6=.dy 1 0∧lk ρ 7=v∧lk ρ 8=.i i∧lk ρ 9=.ptr z 0∧lk ρ 10=.lst ((z08 o).map .i) (z08 o).length 1∧lk ρ 11=.lst ((z0u o).map .i) (z0u o).length 1∧lk ρ 12=.i j∧G=G1∧∀ x∈(z08 o).take j,¬ x∈ls) (N:=(z08 o).length)
  ⟨0,rfl,by omega,by simp[h1],by simp[h6],by simp[h7],by simp[h8],by simp,by simp,by simp,by simp,rfl,by simp⟩ ?_
 clear h1 h6 h7 h8
 rintro N2 ρ D G2 ⟨j,rfl,hN2,h1,h6,h7,h8,h9,h10,h11,h12,rfl,hp⟩ Nx2 hNx2
 by_cases gj:j < (z08 o).length
 ·have hg:=za4 (f:=LV.i) (zal gj)
  have ht:=zgd gj
  have hmem:=zn5 gj
  generalize gd (z08 o) j=x at *
  simp[h7,h10,h12,gj,z05 hg]
  refine z02 (zo6 ls x (by omega)) ⟨_,_,rfl,hzs.bor,by simp⟩ ?_
  by_cases hx:x∈ls
  ·have ha:((z08 o).any fun r=>ls.contains r)=true:=List.any_eq_true.2 ⟨x,hmem,by simpa using hx⟩
   rw[hstep,if_pos ha] at hR
   simp at hR
   subst hR
   simp[hx,h8]
  ·simp[hx,h12]
   refine⟨by omega,hNx2 _ _ _ ⟨N2 - 1,by omega,j+1,rfl,by omega,by simp[h1],by simp[h6],by simp[h7],by simp[h8],by simp[h9],by simp[h10],by simp[h11],by simp,rfl,fun y hy=>?_⟩⟩
   rw[ht] at hy
   rcases List.mem_append.1 hy with hy | hy
   ·exact hp y hy
   ·simp at hy; rw[hy]; exact hx
 rw[List.take_of_length_le (by omega)] at hp
 have ha:¬ ((z08 o).any fun r=>ls.contains r)=true:=by
  rw[List.any_eq_true]; rintro⟨x,hx,h⟩; exact hp x hx (by simpa using h)
 rw[if_neg ha] at hstep
 clear ha hp hNx2
 by_cases k16:o.kind=16
 ·obtain⟨d0,dr⟩:=hd1 k16
  obtain⟨dn,hdn⟩:=Int.eq_ofNat_of_zero_le d0
  have hdr:dn < r:=by omega
  have hmd:(m.map LV.bool)[dn]?=some (.bool (z3d m o.d)):=by
   simp[z3d,hdn,hml,hdr]
  cases hmade:z3d m o.d with
  | true =>
   rw[hmade] at hmd
   rw[hstep,if_pos (show o.kind=16∧z3d m o.d=true from ⟨k16,hmade⟩)] at hR
   simp at hR
   subst hR
   simp[h6,h8,h9,h10,h12,gj,hzo,k16,hdn,hdr,hz1,z05 hmd]
  | false =>
  rw[hmade] at hmd
  rw[if_neg (show ¬ (o.kind=16∧z3d m o.d=true) by rw[hmade]; simp)] at hstep
  simp[h6,h8,h9,h10,h12,gj,hzo,k16,hdn,hdr,hz1,z05 hmd,h7]
  refine hzs.lenL ?_
  by_cases l8:ls.length=8
  ·rw[hstep,if_pos (show o.kind=16∧ls.length=8 from ⟨k16,l8⟩)] at hR
   simp at hR
   subst hR
   simp[l8,h8]
  rw[if_neg (show ¬ (o.kind=16∧ls.length=8) from fun q=>l8 q.2)] at hstep
  refine⟨fun q=>absurd q (by omega),fun _=>?_⟩
  rw[if_pos k16] at hstep
  refine z0m (fun ρ D G N=>∃ j:Nat,D=[]∧N+j=(z0u o).length∧lk ρ 1=.ptr 0 0∧lk ρ 6=.dy 1 0∧lk ρ 7=v∧lk ρ 8=.i i∧lk ρ 9=.ptr z 0∧lk ρ 10=.lst ((z08 o).map .i) (z08 o).length 1∧lk ρ 11=.lst ((z0u o).map .i) (z0u o).length 1∧lk ρ 13=.i j∧G=G2∧∀ x∈(z0u o).take j,z3d m x=true) (N:=(z0u o).length)
   ⟨0,rfl,by omega,by simp[h1],by simp[h6],by simp[h7],by simp[h8],by simp[h9],by simp[h10],by simp[h11],by simp,rfl,by simp⟩ ?_
  clear h1 h6 h7 h8 h9 h10 h11 h12
  rintro N3 ρ D G3 ⟨j,rfl,hN3,h1,h6,h7,h8,h9,h10,h11,h13,rfl,hp⟩ Nx3 hNx3
  by_cases gj:j < (z0u o).length
  ·have hg:=za4 (f:=LV.i) (zal gj)
   have ht:=zgd gj
   have hmem:=zn5 gj
   generalize gd (z0u o) j=x at *
   obtain⟨x0,xr⟩:=ht1 x hmem
   obtain⟨xn,rfl⟩:=Int.eq_ofNat_of_zero_le x0
   have hxr:xn < r:=by omega
   have hmx:(m.map LV.bool)[xn]?=some (.bool (z3d m (xn:Int))):=by simp[z3d,hml,hxr]
   cases hmade2:z3d m (xn:Int) with
   | false =>
    have ha:=zni hmem hmade2
    rw[hstep,if_pos ha] at hR
    simp at hR
    subst hR
    rw[hmade2] at hmx
    simp[h6,h8,h11,h13,gj,z05 hg,hz1,hxr,z05 hmx]
   | true =>
    rw[hmade2] at hmx
    simp[h6,h8,h11,h13,gj,z05 hg,hz1,hxr,z05 hmx]
    refine⟨by omega,hNx3 _ _ _ ⟨N3 - 1,by omega,j+1,rfl,by omega,by simp[h1],by simp[h6],by simp[h7],by simp[h8],by simp[h9],by simp[h10],by simp[h11],by simp,rfl,fun y hy=>?_⟩⟩
    rw[ht] at hy
    rcases List.mem_append.1 hy with hy | hy
    ·exact hp y hy
    ·simp at hy; rw[hy]; exact hmade2
  rw[List.take_of_length_le (by omega)] at hp
  rw[if_neg (by rw[zie hp]; simp)] at hstep
  clear hNx3 hp
  simp[h1,h6,h7,h8,h9,h10,h11,h13,gj]
  refine z0m (fun ρ D G N=>∃ (j st2:Nat) (m2:List Bool),D=[]∧N+j=(z08 o).length∧lk ρ 1=.ptr 0 0∧lk ρ 6=.dy 1 0∧lk ρ 7=v∧lk ρ 8=.i i∧lk ρ 9=.ptr z 0∧lk ρ 10=.lst ((z08 o).map .i) (z08 o).length 1∧lk ρ 14=.i j∧G.length=G3.length∧(∀ q,q≠1→G[q]?=G3[q]?)∧G[1]?=some (.dyn (m2.map .bool) r 1 0 st2)∧m2.length=r∧m2=((z08 o).take j).foldl (fun m r=>m.set r.toNat true) m) (N:=(z08 o).length)
   ⟨0,st,m,rfl,by omega,by simp[h1],by simp[h6],by simp[h7],by simp[h8],by simp[h9],by simp[h10],by simp,rfl,fun _ _=>rfl,hz1,hml,by simp⟩ ?_
  clear h1 h6 h7 h8 h9 h10 h11 h13
  rintro N4 ρ D G4 ⟨j,st2,m2,rfl,hN4,h1,h6,h7,h8,h9,h10,h14,hgl,hgf,hg1,hm2,hmf⟩ Nx4 hNx4
  by_cases gk:j < (z08 o).length
  ·have hg:=za4 (f:=LV.i) (zal gk)
   have ht:=zgd gk
   have hmem:=zn5 gk
   generalize gd (z08 o) j=x at *
   obtain⟨x0,xr⟩:=hm1 x hmem
   obtain⟨xn,rfl⟩:=Int.eq_ofNat_of_zero_le x0
   have hxr:xn < r:=by omega
   have e1:z0w (m2.map LV.bool) xn [.bool true]=(m2.set xn true).map LV.bool:=by
    rw[lay1' _ _ _ (by simp; omega),List.map_set]
   simp[h6,h10,h14,gk,z05 hg,hg1,hxr,hm2,e1]
   refine⟨by omega,by omega,hNx4 _ _ _ ⟨N4 - 1,by omega,j+1,st2+1,m2.set xn true,rfl,by omega,by simp[h1],by simp[h6],by simp[h7],by simp[h8],by simp[h9],by simp[h10],by simp,by simp[hgl],fun q hq=>?_,?_,by simp[hm2],?_⟩⟩
   ·rw[List.getElem?_set_ne (Ne.symm hq)]; exact hgf q hq
   ·rw[←List.map_set]; exact List.getElem?_set_self (by have:=(List.getElem?_eq_some_iff.1 hg1).1; exact this)
   ·rw[ht,List.foldl_append,←hmf]; simp
  rw[List.take_of_length_le (by omega)] at hmf
  have hzs4:StD 2 G4 v 1 ls.length (ls.map .i):=hzs.frame fun q h _=>hgf q (by omega)
  have hz04:G4[0]?=some (.cells (lpV r bs os) 0):=(hgf 0 (by omega)).trans hz0
  have hzo4:G4[z]?=_:=(hgf z (by omega)).trans hzo
  rw[←hmf] at hstep
  clear hNx4
  simp[h1,h6,h7,h8,h9,h10,h14,gk,hzo4,k16]
  refine StD.push (x:=[.i o.d]) hzs4.push_end (by omega) (by simp; omega) (by omega) rfl rfl fun v' G5 hs5 hf5 hl5 _=>?_
  simp[h8]
  have hG4l:=(List.getElem?_eq_some_iff.1 hg1).1
  refine⟨by omega,next _ _ m2 (ls++[o.d]) v' st2 hstep (by simp[h1]) (by simp[h6]) (by simp) (by simp) ?_ ?_ hm2 (by simpa using hs5) (by simp at hl5; omega) (fun x hx=>?_) (by simp; omega)⟩
  ·rw[hf5 0 (by omega),oldP (by omega)]; exact hz04
  ·rw[hf5 1 (by omega),oldP (by omega)]; exact hg1
  ·rcases List.mem_append.1 hx with hx | hx
   ·exact hls x hx
   ·simp at hx; rw[hx]; exact hd1 k16
 rw[if_neg (show ¬ (o.kind=16∧z3d m o.d=true) from fun q=>k16 q.1),if_neg (show ¬ (o.kind=16∧ls.length=8) from fun q=>k16 q.1),if_neg k16] at hstep
 simp[h1,h6,h7,h8,h9,h10,h11,h12,gj,hzo,k16]
 refine z0m (fun ρ D G N=>∃ j:Nat,D=[]∧N+j=(z0u o).length∧lk ρ 1=.ptr 0 0∧lk ρ 6=.dy 1 0∧lk ρ 7=v∧lk ρ 8=.i i∧lk ρ 9=.ptr z 0∧lk ρ 10=.lst ((z08 o).map .i) (z08 o).length 1∧lk ρ 11=.lst ((z0u o).map .i) (z0u o).length 1∧lk ρ 13=.i j∧G=G2∧∀ x∈(z0u o).take j,z3d m x=true) (N:=(z0u o).length)
  ⟨0,rfl,by omega,by simp[h1],by simp[h6],by simp[h7],by simp[h8],by simp[h9],by simp[h10],by simp[h11],by simp,rfl,by simp⟩ ?_
 clear h1 h6 h7 h8 h9 h10 h11 h12
 rintro N3 ρ D G3 ⟨j,rfl,hN3,h1,h6,h7,h8,h9,h10,h11,h13,rfl,hp⟩ Nx3 hNx3
 by_cases gj:j < (z0u o).length
 ·have hg:=za4 (f:=LV.i) (zal gj)
  have ht:=zgd gj
  have hmem:=zn5 gj
  generalize gd (z0u o) j=x at *
  obtain⟨x0,xr⟩:=ht1 x hmem
  obtain⟨xn,rfl⟩:=Int.eq_ofNat_of_zero_le x0
  have hxr:xn < r:=by omega
  have hmx:(m.map LV.bool)[xn]?=some (.bool (z3d m (xn:Int))):=by simp[z3d,hml,hxr]
  cases hmade2:z3d m (xn:Int) with
  | false =>
   have ha:=zni hmem hmade2
   rw[hstep,if_pos ha] at hR
   simp at hR
   subst hR
   rw[hmade2] at hmx
   simp[h6,h8,h11,h13,gj,z05 hg,hz1,hxr,z05 hmx]
  | true =>
   rw[hmade2] at hmx
   simp[h6,h8,h11,h13,gj,z05 hg,hz1,hxr,z05 hmx]
   refine⟨by omega,hNx3 _ _ _ ⟨N3 - 1,by omega,j+1,rfl,by omega,by simp[h1],by simp[h6],by simp[h7],by simp[h8],by simp[h9],by simp[h10],by simp[h11],by simp,rfl,fun y hy=>?_⟩⟩
   rw[ht] at hy
   rcases List.mem_append.1 hy with hy | hy
   ·exact hp y hy
   ·simp at hy; rw[hy]; exact hmade2
 rw[List.take_of_length_le (by omega)] at hp
 rw[if_neg (by rw[zie hp]; simp)] at hstep
 clear hNx3 hp
 simp[h1,h6,h7,h8,h9,h10,h11,h13,gj]
 refine z0m (fun ρ D G N=>∃ (j st2:Nat) (m2:List Bool),D=[]∧N+j=(z08 o).length∧lk ρ 1=.ptr 0 0∧lk ρ 6=.dy 1 0∧lk ρ 7=v∧lk ρ 8=.i i∧lk ρ 9=.ptr z 0∧lk ρ 10=.lst ((z08 o).map .i) (z08 o).length 1∧lk ρ 14=.i j∧G.length=G3.length∧(∀ q,q≠1→G[q]?=G3[q]?)∧G[1]?=some (.dyn (m2.map .bool) r 1 0 st2)∧m2.length=r∧m2=((z08 o).take j).foldl (fun m r=>m.set r.toNat true) m) (N:=(z08 o).length)
  ⟨0,st,m,rfl,by omega,by simp[h1],by simp[h6],by simp[h7],by simp[h8],by simp[h9],by simp[h10],by simp,rfl,fun _ _=>rfl,hz1,hml,by simp⟩ ?_
 clear h1 h6 h7 h8 h9 h10 h11 h13
 rintro N4 ρ D G4 ⟨j,st2,m2,rfl,hN4,h1,h6,h7,h8,h9,h10,h14,hgl,hgf,hg1,hm2,hmf⟩ Nx4 hNx4
 by_cases gk:j < (z08 o).length
 ·have hg:=za4 (f:=LV.i) (zal gk)
  have ht:=zgd gk
  have hmem:=zn5 gk
  generalize gd (z08 o) j=x at *
  obtain⟨x0,xr⟩:=hm1 x hmem
  obtain⟨xn,rfl⟩:=Int.eq_ofNat_of_zero_le x0
  have hxr:xn < r:=by omega
  have e1:z0w (m2.map LV.bool) xn [.bool true]=(m2.set xn true).map LV.bool:=by
   rw[lay1' _ _ _ (by simp; omega),List.map_set]
  simp[h6,h10,h14,gk,z05 hg,hg1,hxr,hm2,e1]
  refine⟨by omega,by omega,hNx4 _ _ _ ⟨N4 - 1,by omega,j+1,st2+1,m2.set xn true,rfl,by omega,by simp[h1],by simp[h6],by simp[h7],by simp[h8],by simp[h9],by simp[h10],by simp,by simp[hgl],fun q hq=>?_,?_,by simp[hm2],?_⟩⟩
  ·rw[List.getElem?_set_ne (Ne.symm hq)]; exact hgf q hq
  ·rw[←List.map_set]; exact List.getElem?_set_self (by have:=(List.getElem?_eq_some_iff.1 hg1).1; exact this)
  ·rw[ht,List.foldl_append,←hmf]; simp
 rw[List.take_of_length_le (by omega)] at hmf
 have hzs4:StD 2 G4 v 1 ls.length (ls.map .i):=hzs.frame fun q h _=>hgf q (by omega)
 have hz04:G4[0]?=some (.cells (lpV r bs os) 0):=(hgf 0 (by omega)).trans hz0
 have hzo4:G4[z]?=_:=(hgf z (by omega)).trans hzo
 rw[←hmf] at hstep
 clear hNx4
 simp[h1,h6,h7,h8,h9,h10,h14,gk,hzo4,k16]
 refine⟨by omega,next _ _ m2 ls v st2 hstep (by simp[h1]) (by simp[h6]) (by simp[h7]) (by simp) hz04 hg1 hm2 hzs4 (by omega) hls hl8⟩
end Go.Proofs.YtodjkjimaheggaaGreat
