/- MontgomeryConst, walked. -/
import Derived.Test.YtodjkjimaheggaaGreatSvG3

import Derived.Test.YtodjkjimaheggaaGreatFnMe
import Derived.Test.YtodjkjimaheggaaGreatFnMg
import Derived.Test.YtodjkjimaheggaaGreatFnL23
import Derived.Test.YtodjkjimaheggaaGreatFnO
namespace Go.Proofs.YtodjkjimaheggaaGreat
open Go.Sv
set_option linter.unusedSimpArgs false
set_option maxRecDepth 10000
def c_law23_MontgomeryConst:LC:=(.seq (.ops [.z 6 (.move (.c (.bool false)))]) (.seq (.seq (.ops [.z 19 (.callV (.c (.fn (.func 13) [] [])) []),.z 20 (.un .not (.t 19))]) (.cond (.t 20) (.seq (.ops [.z 6 (.move (.c (.bool false)))]) .ret) .skip)) (.seq (.ops [.m 21 1,.m 22 2,.z 23 (.callV (.c (.fn (.func 38) [] [])) [.t 21,.t 22]),.m 7 23]) (.seq (.seq (.ops [.m 24 2,.z 25 (.bin .lss true 3 (.t 24) (.c (.i 8))),.m 26 25,⟨some 27,(some (26,false)),.move (.t 2)⟩,⟨some 28,(some (26,false)),.bin .gtr true 3 (.t 27) (.c (.i 59))⟩,.z 29 (.pick (.t 26) (.c (.bool true)) (.t 28)),.m 30 29,⟨some 31,(some (30,false)),.move (.t 1)⟩,⟨some 32,(some (30,false)),.bin .lss true 3 (.t 31) (.c (.i 8))⟩,.z 33 (.pick (.t 30) (.c (.bool true)) (.t 32)),.m 34 33,⟨some 35,(some (34,false)),.move (.t 1)⟩,⟨some 36,(some (34,false)),.bin .gtr true 3 (.t 35) (.c (.i 63))⟩,.z 37 (.pick (.t 34) (.c (.bool true)) (.t 36)),.m 38 37,⟨some 39,(some (38,false)),.move (.t 1)⟩,⟨some 40,(some (38,false)),.move (.t 2)⟩,⟨some 41,(some (38,false)),.bin .geq false 3 (.t 39) (.t 40)⟩,⟨some 42,(some (38,false)),.move (.t 41)⟩,⟨some 43,(some (42,true)),.move (.t 1)⟩,⟨some 44,(some (42,true)),.move (.t 2)⟩,⟨some 45,(some (42,true)),.bin .add true 3 (.t 44) (.c (.i 4))⟩,⟨some 46,(some (42,true)),.bin .leq false 3 (.t 43) (.t 45)⟩,⟨some 47,(some (38,false)),.pick (.t 42) (.t 46) (.c (.bool false))⟩,.z 48 (.pick (.t 38) (.c (.bool true)) (.t 47))]) (.cond (.t 48) (.seq (.ops [.m 49 7,.z 50 (.lenSl (.t 49)),.z 51 (.bin .eql true 3 (.t 50) (.c (.i 0))),.m 6 51]) .ret) .skip)) (.seq (.ops [.z 52 (.build [(.i 0),(.i 0),(.bool false)] [(0,1,.c (.i 1)),(1,1,.c (.i 1)),(2,1,(.c (.bool true)))]),.z 53 (.build [(.i 0),(.i 0),(.bool false)] [(0,1,.c (.i 1)),(1,1,.c (.i 2)),(2,1,(.c (.bool true)))]),.z 54 (.buildSl 3 2 [(.i 0),(.i 0),(.bool false),(.i 0),(.i 0),(.bool false)] [(0,3,.t 52),(3,3,.t 53)]),.z 55 (.build [(.i 0),.nilSl,.nilSl] [(0,1,.c (.i 64)),(1,1,.t 54)]),.z 8 (.alloc [(.i 0),.nilSl,.nilSl]),⟨none,none,.store 3 (.t 8) (.t 55)⟩]) (.seq (.ops [.m 56 1,.z 57 (.build [(.i 0),(.i 0),(.i 0),(.i 0),(.i 0),(.i 0),(.i 0),(.u 0)] [(0,1,.c (.i 14)),(1,1,.t 56),(2,1,.c (.i (-1))),(3,1,.c (.i (-1))),(4,1,.c (.i (-1))),(5,1,.c (.i (-1)))]),.z 9 (.alloc [(.i 0),(.i 0),(.i 0),(.i 0),(.i 0),(.i 0),(.i 0),(.u 0)]),⟨none,none,.store 8 (.t 9) (.t 57)⟩]) (.seq (.ops [.m 58 2,.z 59 (.build [(.i 0),(.i 0),(.i 0),(.i 0),(.i 0),(.i 0),(.i 0),(.u 0)] [(0,1,.c (.i 15)),(1,1,.c (.i (-1))),(2,1,.c (.i (-1))),(3,1,.c (.i (-1))),(4,1,.t 58),(5,1,.c (.i (-1))),(6,1,.c (.i 1))]),.z 10 (.alloc [(.i 0),(.i 0),(.i 0),(.i 0),(.i 0),(.i 0),(.i 0),(.u 0)]),⟨none,none,.store 8 (.t 10) (.t 59)⟩]) (.seq (.draw [(.f 60 2 8,[]),(.l 61 60,[]),(.z 62 (.loadN 8 (.t 9)),[]),(.z 63 (.buildSl 8 1 [(.i 0),(.i 0),(.i 0),(.i 0),(.i 0),(.i 0),(.i 0),(.u 0)] [(0,8,.t 62)]),[(.z 62 (.loadN 8 (.t 9)),false),(.l 61 60,false)]),(.m 65 7,[]),(.z 67 (.loadN 8 (.t 10)),[]),(.z 68 (.buildSl 8 1 [(.i 0),(.i 0),(.i 0),(.i 0),(.i 0),(.i 0),(.i 0),(.u 0)] [(0,8,.t 67)]),[(.z 67 (.loadN 8 (.t 10)),false),(.z 63 (.buildSl 8 1 [(.i 0),(.i 0),(.i 0),(.i 0),(.i 0),(.i 0),(.i 0),(.u 0)] [(0,8,.t 62)]),true),(.z 62 (.loadN 8 (.t 9)),false),(.l 61 60,false)]),(.z 64 (.appG 8 (.t 61) (.t 63)),[(.z 68 (.buildSl 8 1 [(.i 0),(.i 0),(.i 0),(.i 0),(.i 0),(.i 0),(.i 0),(.u 0)] [(0,8,.t 67)]),true),(.z 67 (.loadN 8 (.t 10)),false)]),(.z 66 (.appG 8 (.t 64) (.t 65)),[(.z 68 (.buildSl 8 1 [(.i 0),(.i 0),(.i 0),(.i 0),(.i 0),(.i 0),(.i 0),(.u 0)] [(0,8,.t 67)]),true),(.z 67 (.loadN 8 (.t 10)),false)]),(.z 69 (.appG 8 (.t 66) (.t 68)),[]),(.f 70 2 8,[]),(⟨none,none,.store 1 (.t 70) (.t 69)⟩,[])]) (.seq (.seq (.ops [.z 11 (.move (.c (.i 0)))]) (.block 0 (.loop (.seq (.seq (.ops [.m 71 11,.m 72 7,.z 73 (.lenSl (.t 72)),.z 74 (.bin .lss false 3 (.t 71) (.t 73))]) (.cond (.t 74) .skip (.exit 0))) (.seq (.block 1 (.seq (.draw [(.m 77 7,[]),(.m 78 11,[]),(.z 79 (.ixAddr 8 (.t 77) (.t 78)),[]),(.f 80 1 79,[]),(.l 81 80,[]),(.m 82 7,[]),(.m 83 11,[]),(.z 84 (.ixAddr 8 (.t 82) (.t 83)),[]),(.f 85 2 84,[]),(.l 86 85,[]),(.z 87 (.buildSl 1 2 [(.i 0),(.i 0)] [(0,1,.t 81),(1,1,.t 86)]),[(.l 86 85,false),(.l 81 80,false)]),(.z 88 (.lenSl (.t 87)),[]),(.z 89 (.move (.c (.i 0))),[])]) (.block 2 (.loop (.seq (.ops [.z 90 (.bin .lss false 3 (.t 89) (.t 88))]) (.seq (.cond (.t 90) .skip (.exit 2)) (.seq (.block 3 (.seq (.ops [.z 91 (.ixAddr 1 (.t 87) (.t 89)),.l 92 91,.m 13 92]) (.seq (.ops [.m 93 13,.z 94 (.bin .geq true 3 (.t 93) (.c (.i 0))),.m 95 94,⟨some 96,(some (95,true)),.move (.t 13)⟩,⟨some 97,(some (95,true)),.move (.t 2)⟩,⟨some 98,(some (95,true)),.bin .lss false 3 (.t 96) (.t 97)⟩,⟨some 99,(some (95,true)),.move (.t 98)⟩,⟨some 100,(some (99,false)),.move (.t 13)⟩,⟨some 101,(some (99,false)),.move (.t 2)⟩,⟨some 102,(some (99,false)),.bin .add true 3 (.t 101) (.c (.i 4))⟩,⟨some 103,(some (99,false)),.bin .gtr false 3 (.t 100) (.t 102)⟩,⟨some 104,(some (95,true)),.pick (.t 99) (.c (.bool true)) (.t 103)⟩,.z 105 (.pick (.t 95) (.t 104) (.c (.bool false)))]) (.cond (.t 105) (.seq (.ops [.z 6 (.move (.c (.bool false)))]) .ret) .skip)))) (.ops [.z 106 (.bin .add true 3 (.t 89) (.c (.i 1))),.m 89 106])))))))) (.ops [.m 75 11,.z 76 (.bin .add true 3 (.t 75) (.c (.i 1))),.m 11 76])))))) (.seq (.ops [.z 108 (.loadN 3 (.t 8)),.m 109 0,.z 110 (.buildSl 1 1 [(.u 0)] [(0,1,.t 109)]),.z 111 (.buildSl 1 1 [(.u 0)] [(0,1,.c (.u 5))]),.z 112 (.buildSl 1 2 [.nilSl,.nilSl] [(0,1,.t 110),(1,1,.t 111)]),.z 113 (.callV (.c (.fn (.func 29) [] [])) [.t 108,.t 112]),.m 107 113,.z 114 (.extract 0 (.t 107)),.z 115 (.extract 1 (.t 107)),.z 116 (.extract 2 (.t 107)),.m 14 114,.m 15 115,.m 16 116]) (.seq (.seq (.ops [.m 117 16,.z 118 (.bin .neq true 35 (.t 117) (.c (.i 0))),.m 119 118,⟨some 120,(some (119,false)),.move (.t 0)⟩,⟨some 121,(some (119,false)),.bin .rem true 23 (.t 120) (.c (.u 2))⟩,⟨some 122,(some (119,false)),.bin .eql true 23 (.t 121) (.c (.u 0))⟩,.z 123 (.pick (.t 119) (.c (.bool true)) (.t 122))]) (.cond (.t 123) (.seq (.ops [.m 124 16,.z 125 (.bin .eql true 35 (.t 124) (.c (.i 0))),.m 6 125]) .ret) .skip)) (.seq (.ops [.m 127 0,.z 128 (.buildSl 1 1 [(.u 0)] [(0,1,.t 127)]),.z 129 (.callV (.c (.fn (.func 39) [] [])) [.t 128]),.m 126 129,.z 130 (.extract 0 (.t 126)),.z 131 (.extract 1 (.t 126)),.m 17 130,.m 18 131]) (.seq (.ops [.m 132 18,.z 133 (.bin .eql true 35 (.t 132) (.c (.i 0))),.m 134 133,⟨some 135,(some (134,true)),.move (.t 14)⟩,⟨some 136,(some (134,true)),.ixAddr 1 (.t 135) (.c (.i 1))⟩,⟨some 137,(some (134,true)),.load1 (.t 136)⟩,⟨some 138,(some (134,true)),.ixAddr 1 (.t 137) (.c (.i 0))⟩,⟨some 139,(some (134,true)),.load1 (.t 138)⟩,⟨some 140,(some (134,true)),.move (.t 17)⟩,⟨some 141,(some (134,true)),.bin .eql false 23 (.t 139) (.t 140)⟩,.z 142 (.pick (.t 134) (.t 141) (.c (.bool false))),.m 143 142,⟨some 144,(some (143,true)),.move (.t 14)⟩,⟨some 145,(some (143,true)),.ixAddr 1 (.t 144) (.c (.i 1))⟩,⟨some 146,(some (143,true)),.load1 (.t 145)⟩,⟨some 147,(some (143,true)),.ixAddr 1 (.t 146) (.c (.i 0))⟩,⟨some 148,(some (143,true)),.load1 (.t 147)⟩,⟨some 149,(some (143,true)),.move (.t 0)⟩,⟨some 150,(some (143,true)),.bin .mul false 23 (.t 148) (.t 149)⟩,⟨some 151,(some (143,true)),.bin .eql true 23 (.t 150) (.c (.u 18446744073709551615))⟩,.z 152 (.pick (.t 143) (.t 151) (.c (.bool false))),.m 6 152]) .ret)))))))))))))
theorem r_law23_MontgomeryConst:resFn Tryz.prog 7=some ⟨153,c_law23_MontgomeryConst.r,[.tmp 6]⟩:=by kernel_rfl
theorem k_law23_MontgomeryConst:c_law23_MontgomeryConst.ok=true:=by kernel_rfl
theorem law23_MontgomeryConst_run (limb:UInt64) (n r:Int) (hn:inI n) (hr:inI r):CallL Tryz.prog (.fn 7) [.u limb,.i n,.i r] [] fun v _=>v=.bool true:=by
 refine call_body r_law23_MontgomeryConst k_law23_MontgomeryConst (by simp) ?_
 rw[c_law23_MontgomeryConst,wp_assoc,wp_assoc,wp_assoc]
 refine wp_cut (fun ρ D G=>D=[]∧G=[]∧lk ρ 0=.u limb∧lk ρ 1=.i n∧lk ρ 2=.i r∧lk ρ 7=.lst (loC (reckL n r)) (reckL n r).length 8∧¬ (r < 8∨59 < r∨n < 8∨63 < n∨(r≤n∧n≤r+4))) (fun Nx hNx=>?_) (fun ρ D G hΦ=>?_)
 ·simp
  refine CallL_F law23_lives_ok (by simp) ?_
  simp
  refine CallL_V (montgomery_Const_ok n r) rfl ?_
  by_cases bad:r < 8∨59 < r∨n < 8∨63 < n∨(r≤n∧n≤r+4)
  ·have hl:constL n r=[]:=by unfold constL; rw[if_pos bad]
   rw[hl]
   by_cases g1:r < 8
   ·simp[g1,loC]
   by_cases g2:59 < r
   ·simp[g1,g2,loC]
   by_cases g3:n < 8
   ·simp[g1,g2,g3,loC]
   by_cases g4:63 < n
   ·simp[g1,g2,g3,g4,loC]
   have hin:-9223372036854775808≤r+4∧r+4 < 9223372036854775808:=by omega
   have g5:r≤n∧n≤r+4:=by omega
   simp[g1,g2,g3,g4,g5.1,g5.2,hin,loC]
  have hl:constL n r=reckL n r:=by unfold constL; rw[if_neg bad]
  rw[hl]
  have g1:¬ r < 8:=by omega
  have g2:¬ 59 < r:=by omega
  have g3:¬ n < 8:=by omega
  have g4:¬ 63 < n:=by omega
  by_cases g6:r≤n
  ·have g7:¬ n≤r+4:=by omega
   simp[g1,g2,g3,g4,g6,g7]
   repeat (refine⟨by omega,?_⟩)
   exact hNx _ _ _ ⟨rfl,rfl,by simp,by simp,by simp,by simp,bad⟩
  ·simp[g1,g2,g3,g4,g6]
   exact hNx _ _ _ ⟨rfl,rfl,by simp,by simp,by simp,by simp,bad⟩
 obtain⟨rfl,rfl,h0,h1,h2,h7,bad⟩:=hΦ
 obtain⟨nn,rfl⟩:=Int.eq_ofNat_of_zero_le (show 0≤n by omega)
 obtain⟨rr,rfl⟩:=Int.eq_ofNat_of_zero_le (show 0≤r by omega)
 have hn8:8≤nn∧nn≤63:=by omega
 have hr8:8≤rr∧rr≤59:=by omega
 have hnr:¬ (rr≤nn∧nn≤rr+4):=by omega
 obtain⟨T,s',hT,hrun,hend,hbufs⟩:=prC_run limb hn8 hr8 hnr
 have hlen:=reckL_len (nn:Int) rr
 have hregs:=reckL_regs (n:=(nn:Int)) (r:=rr)
 have hlc:=loC_dats (reckL (nn:Int) rr)
 simp[h0,h1,h2,h7,hlen]
 obtain⟨G0,hG0⟩:∃ G0:LHeap,G0=[LObj.dyn [.i 1,.i 1,.bool true,.i 1,.i 2,.bool true] 2 3 0 0,.cells [.i 64,.dy 0 0,.dy 6 2] 2,
   .cells [.i 14,.i nn,.i (-1),.i (-1),.i (-1),.i (-1),.i 0,.u 0] 1,.cells [.i 15,.i (-1),.i (-1),.i (-1),.i rr,.i (-1),.i 1,.u 0] 1,
   .dyn [.i 14,.i nn,.i (-1),.i (-1),.i (-1),.i (-1),.i 0,.u 0] 1 8 0 0,.dyn [.i 15,.i (-1),.i (-1),.i (-1),.i rr,.i (-1),.i 1,.u 0] 1 8 0 0,
   .dyn ([.i 14,.i nn,.i (-1),.i (-1),.i (-1),.i (-1),.i 0,.u 0]++(loC (reckL nn rr)++[.i 15,.i (-1),.i (-1),.i (-1),.i rr,.i (-1),.i 1,.u 0])) 23 8 2 2]:=⟨_,rfl⟩
 refine loop_nx (fun ρ D G N=>∃ i:Nat,D=[]∧N+i=21∧lk ρ 0=.u limb∧lk ρ 2=.i rr∧lk ρ 7=.lst (loC (reckL nn rr)) 21 8∧lk ρ 8=.ptr 1 0∧lk ρ 11=.i i∧7≤G.length∧∀ q,q < 7→G[q]?=G0[q]?) (N:=21)
  ⟨0,rfl,rfl,by simp[h0],by simp[h2],by simp[h7,hlen],by simp,by simp,by simp,fun q _=>by rw[hG0]; simp⟩ ?_
 clear h0 h1 h2 h7
 rintro N ρ D G ⟨i,rfl,hN,h0,h2,h7,h8,h11,hGl,hGf⟩ Nx hNx
 by_cases g:i < 21
 ·have g':(i:Int) < 21:=by omega
  have gl:i < (reckL (nn:Int) rr).length:=by omega
  have ho:=at_glo gl
  have hd:=lo_at ho (j:=1) (by omega)
  have he:=lo_at ho (j:=2) (by omega)
  obtain⟨hrd,hre⟩:=hregs _ (List.mem_of_getElem? ho)
  have hlt:=lo_lt gl
  generalize glo (reckL (nn:Int) rr) i=o at *
  simp[Lo.f] at hd he
  have hlt1:i * 8+1 < (loC (reckL (nn:Int) rr)).length:=by omega
  have hlt2:i * 8+2 < (loC (reckL (nn:Int) rr)).length:=by omega
  simp[h7,h11,g',g,nthL_at hd,nthL_at he]
  have hz:(G++[LObj.dyn [.i o.d,.i o.e] 2 1 0 0])[G.length]?=some (.dyn [.i o.d,.i o.e] 2 1 0 0):=List.getElem?_concat_length
  have hf2:∀ q,q < 7→(G++[LObj.dyn [.i o.d,.i o.e] 2 1 0 0])[q]?=G0[q]?:=fun q hq=>(oldP (by omega)).trans (hGf q hq)
  have hl2:7≤(G++[LObj.dyn [.i o.d,.i o.e] 2 1 0 0]).length:=by simp; omega
  generalize G++[LObj.dyn [.i o.d,.i o.e] 2 1 0 0]=G2 at *
  generalize G.length=z at *
  refine loop_nx (fun ρ D G N=>∃ j:Nat,D=[]∧N+j=2∧lk ρ 0=.u limb∧lk ρ 2=.i rr∧lk ρ 7=.lst (loC (reckL nn rr)) 21 8∧lk ρ 8=.ptr 1 0∧lk ρ 11=.i i∧lk ρ 87=.dy z 0∧lk ρ 88=.i 2∧lk ρ 89=.i j∧G=G2) (N:=2)
   ⟨0,rfl,rfl,by simp[h0],by simp[h2],by simp[h7],by simp[h8],by simp[h11],by simp,by simp,by simp,rfl⟩ ?_
  clear h0 h2 h7 h8 h11
  rintro N2 ρ D G3 ⟨j,rfl,hN2,h0,h2,h7,h8,h11,h87,h88,h89,rfl⟩ Nx2 hNx2
  by_cases j0:j=0
  ·subst j0
   have x0:0≤o.d:=by omega
   have xa:¬ o.d < (rr:Int):=by omega
   have xb:¬ (rr:Int)+4 < o.d:=by omega
   simp[h2,h87,h88,h89,hz,x0,xa,xb]
   repeat (refine⟨by omega,?_⟩)
   exact hNx2 _ _ _ ⟨N2 - 1,by omega,1,rfl,by omega,by simp[h0],by simp[h2],by simp[h7],by simp[h8],by simp[h11],by simp[h87],by simp[h88],by simp,rfl⟩
  by_cases j1:j=1
  ·subst j1
   by_cases x1:o.e=-1
   ·simp[h2,h87,h88,h89,hz,x1]
    exact hNx2 _ _ _ ⟨N2 - 1,by omega,2,rfl,by omega,by simp[h0],by simp[h2],by simp[h7],by simp[h8],by simp[h11],by simp[h87],by simp[h88],by simp,rfl⟩
   ·have x0:0≤o.e:=by omega
    have xa:¬ o.e < (rr:Int):=by omega
    have xb:¬ (rr:Int)+4 < o.e:=by omega
    simp[h2,h87,h88,h89,hz,x0,xa,xb]
    repeat (refine⟨by omega,?_⟩)
    exact hNx2 _ _ _ ⟨N2 - 1,by omega,2,rfl,by omega,by simp[h0],by simp[h2],by simp[h7],by simp[h8],by simp[h11],by simp[h87],by simp[h88],by simp,rfl⟩
  have j2:j=2:=by omega
  subst j2
  simp[h0,h2,h7,h8,h11,h87,h88,h89]
  refine⟨by omega,hNx _ _ _ ⟨N - 1,by omega,i+1,rfl,by omega,by simp[h0],by simp[h2],by simp[h7],by simp[h8],by simp,hl2,hf2⟩⟩
 have hi:i=21:=by omega
 subst hi
 clear hNx hregs
 have f1:=hGf 1 (by omega)
 have f0:=hGf 0 (by omega)
 have f6:=hGf 6 (by omega)
 rw[hG0] at f0 f1 f6
 simp at f0 f1 f6
 have lG1:1 < G.length:=by omega
 simp[h0,h7,h8,h11,f1]
 have hC:loC (prC nn rr)=[.i 14,.i nn,.i (-1),.i (-1),.i (-1),.i (-1),.i 0,.u 0]++(loC (reckL nn rr)++[.i 15,.i (-1),.i (-1),.i (-1),.i rr,.i (-1),.i 1,.u 0]):=by
  unfold prC; rw[loC_app,loC_app]; rfl
 have hpl:(prC (nn:Int) rr).length=23:=by simp[prC,hlen]
 have hok:=okL_prC (n:=(nn:Int)) (r:=rr) (by omega) (by omega)
 have hkd:=okL_kd hok
 have hwf:(frL (prC (nn:Int) rr)).wf kdL:=wf_frL fun o ho=>(hkd o ho).1
 have hfl:(frL (prC (nn:Int) rr)).flat=prC nn rr:=flat_frL _
 have hsize:(frL (prC (nn:Int) rr)).size=23:=by rw[←Fr.flat_len,hfl,hpl]
 have hck:(chkR ((64:Nat):Int) bs2 (prC nn rr)).2=0:=chkR_okL (by omega) (by simp[bs2]) (by omega) (by simp[bs2]) hok
 have hbal:bal kdL 0 (prC (nn:Int) rr):=by
  have h:=flat_bal (f:=frL (prC (nn:Int) rr)) (d:=0) (rest:=[]) hwf (by unfold bal; rfl)
  rwa [hfl,List.append_nil] at h
 have hreg:=regs_okL (bs:=bs2) (nb:=2) rfl (by omega) fun o ho=>(hkd o ho).2
 have hstr:stR [] 0 (prC (nn:Int) rr)≤16777216:=by
  have h:=stR_flat (nb:=2) (ls:=[]) hwf hreg (by rw[stp_frL,hpl]; omega)
  rw[hfl,stp_frL,hpl] at h
  rw[h]; decide
 have hes:endsR 0 [] (List.replicate (prC (nn:Int) rr).length 0) (prC nn rr)=(frL (prC (nn:Int) rr)).ends 0:=by
  have h:=endsR_flat hwf
  rw[hfl,hsize] at h
  rw[hpl]; exact h
 have hrows:rowsB bs2 [[limb],[5]]=true:=by
  unfold rowsB
  refine decide_eq_true ⟨rfl,fun i hi=>?_⟩
  match i,hi with
  | 0,_=>simp[bs2,gbf]
  | 1,_=>simp[bs2,gbf]
 have hE:∀ i o,(prC (nn:Int) rr)[i]?=some o→o.kind=17→0≤((frL (prC (nn:Int) rr)).ends 0).getD i 0∧∃ p,(prC (nn:Int) rr)[(((frL (prC (nn:Int) rr)).ends 0).getD i 0).toNat]?=some p∧p.kind=16:=fun i o ho hk=>by
  obtain⟨k,p,e1,e2,e3⟩:=ends_at (frL (prC (nn:Int) rr)) 0 i o hwf (by rw[hfl]; exact ho) hk
  rw[hfl] at e2
  rw[List.getD_eq_getElem?_getD,e1]
  exact⟨by simp,p,by simpa using e2,e3⟩
 have hR:=ref12_Run_ok (bs:=bs2) (os:=prC nn rr) hck hbal hstr hrows (by decide) hes hE hT hrun hend
 rw[hbufs] at hR
 have hargs:lpV ((64:Nat):Int) bs2 (prC nn rr)=[.i 64,.lst [.i 1,.i 1,.bool true,.i 1,.i 2,.bool true] 2 3,.lst ([.i 14,.i nn,.i (-1),.i (-1),.i (-1),.i (-1),.i 0,.u 0]++(loC (reckL nn rr)++[.i 15,.i (-1),.i (-1),.i (-1),.i rr,.i (-1),.i 1,.u 0])) 23 8]:=by
  unfold lpV; rw[hpl,hC]; rfl
 rw[hargs] at hR
 have lz:7≤G.length:=hGl
 refine CallL_fzC (p:=0) (q:=1) (a:=[.i 64]) (b:=[.dy 6 2]) (args':=[.agg [.i 64,.lst [.i 1,.i 1,.bool true,.i 1,.i 2,.bool true] 2 3,.dy 6 2],.dy (G.length+2) 0]) (by rw[oldP (by omega)]; exact f0) (by rw[oldP (by omega)]; exact f1) (fun c c' r hle hx ha=>?_) ?_
 ·cases ha with
  | cons e es=>cases e with
   | agg e=>cases e with
    | cons e1 e2=>cases e2 with
     | cons e2 e3=>exact .cons (.agg (.cons (e1.mono hle) (.cons (hx _ e2) (e3.mono hle)))) (es.mono hle)
 refine CallL_fzC (p:=6) (q:=1) (a:=[.i 64,.lst [.i 1,.i 1,.bool true,.i 1,.i 2,.bool true] 2 3]) (b:=[]) (args':=[.agg [.i 64,.lst [.i 1,.i 1,.bool true,.i 1,.i 2,.bool true] 2 3,.lst ([.i 14,.i nn,.i (-1),.i (-1),.i (-1),.i (-1),.i 0,.u 0]++(loC (reckL nn rr)++[.i 15,.i (-1),.i (-1),.i (-1),.i rr,.i (-1),.i 1,.u 0])) 23 8],.dy (G.length+2) 0])
  (by rw[List.getElem?_set_ne (by omega),List.getElem?_set_ne (by omega),oldP (by omega)]; exact f6) (List.getElem?_set_self (by simp)) (fun c c' r hle hx ha=>?_) ?_
 ·cases ha with
  | cons e es=>cases e with
   | agg e=>cases e with
    | cons e1 e2=>cases e2 with
     | cons e2 e3=>cases e3 with
      | cons e3 e4=>exact .cons (.agg (.cons (e1.mono hle) (.cons (e2.mono hle) (.cons (hx _ e3) (e4.mono hle))))) (es.mono hle)
 refine CallL_fzD (p:=G.length) (q:=G.length+2) (a:=[]) (b:=[.dy (G.length+1) 0]) (l:=[.u limb]) (len:=1) (esz:=1) (k:=0) (st:=0) (n:=2) (eq:=1) (vq:=0) (sq:=0) ?_ ?_ (by omega) ?_
 ·rw[List.getElem?_set_ne (by omega),List.getElem?_set_ne (by omega),List.getElem?_set_ne (by omega),List.getElem?_set_ne (by omega),List.getElem?_append_right (by omega),Nat.sub_self]; rfl
 ·rw[List.getElem?_set_ne (by omega),List.getElem?_set_ne (by omega),List.getElem?_set_ne (by omega),List.getElem?_set_ne (by omega),List.getElem?_append_right (by omega),show G.length+2 - G.length=2 by omega]; rfl
 refine CallL_fzD (p:=G.length+1) (q:=G.length+2) (a:=[LU [limb]]) (b:=[]) (l:=[.u 5]) (len:=1) (esz:=1) (k:=0) (st:=0) (n:=2) (eq:=1) (vq:=0) (sq:=1) ?_ (List.getElem?_set_self (by simp)) (by omega) ?_
 ·rw[List.getElem?_set_ne (by omega),List.getElem?_set_ne (by omega),List.getElem?_set_ne (by omega),List.getElem?_set_ne (by omega),List.getElem?_set_ne (by omega),List.getElem?_set_ne (by omega),List.getElem?_append_right (by omega),show G.length+1 - G.length=1 by omega]; rfl
 refine CallL_fzG (p:=G.length+2) (args':=[.agg [.i 64,.lst [.i 1,.i 1,.bool true,.i 1,.i 2,.bool true] 2 3,.lst ([.i 14,.i nn,.i (-1),.i (-1),.i (-1),.i (-1),.i 0,.u 0]++(loC (reckL nn rr)++[.i 15,.i (-1),.i (-1),.i (-1),.i rr,.i (-1),.i 1,.u 0])) 23 8],LN [[limb],[5]]]) (List.getElem?_set_self (by simp)) (fun c c' r hle hx ha=>?_) ?_
 ·cases ha with
  | cons e es=>cases es with
   | cons e2 es=>exact .cons (e.mono hle) (.cons (hx _ e2) (es.mono hle))
 refine CallL_V hR ?_ ?_
 ·rw[←hargs]
  simp[dats,LV.dat,lpV_dats,LN]
 clear hR hGf f0 f1 f6 hG0
 generalize hG9:List.set _ (G.length+2) _=G9
 clear hG9
 by_cases hodd:limb % 2=1
 case neg =>
  have h20:limb % 2=0:=by
   have h1:(limb % 2).toNat=limb.toNat % 2:=by simp
   have h2:¬ (limb % 2).toNat=1:=fun e=>hodd (UInt64.toNat.inj (by rw[e]; rfl))
   apply UInt64.toNat.inj
   show (limb % 2).toNat=0
   omega
  simp[h0,modU_eq,h20]
 have hinv:inv64 limb=reckN limb:=inv64_eq (reckN_one limb hodd)
 have hne:¬ limb % 2=0:=by rw[hodd]; decide
 have hc1:conE [limb]=0:=by simp[conE,oddL,hodd]
 have hc2:conR [limb]=0 - reckN limb:=by simp[conR,oddL,hodd,hinv]
 have hk:=ref03_Const_ok [limb]
 rw[hc1,hc2] at hk
 have hlast:(0 - reckN limb) * limb=18446744073709551615:=by
  have h:=reckN_one limb hodd
  have:(0 - reckN limb) * limb=0 - limb * reckN limb:=by grind
  rw[this,h]; decide
 generalize 0 - reckN limb=y at *
 simp[h0,modU_eq,hne]
 refine CallL_fz (a:=[]) (b:=[]) (l:=[.u limb]) (len:=1) (esz:=1) (k:=0) (st:=0) List.getElem?_concat_length ?_
 refine CallL_F hk (bors_self _ rfl) ?_
 simp[h0,mulU_eq,hlast]
end Go.Proofs.YtodjkjimaheggaaGreat
