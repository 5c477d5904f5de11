/- What is secret in a limb program: the document's answer. -/
import Derived.Test.YtodjkjimaheggaaGreatSvG4
import Derived.Test.YtodjkjimaheggaaGreatFnMc
namespace Go.Proofs.YtodjkjimaheggaaGreat
open Go.Sv
set_option linter.unusedSimpArgs false
set_option maxRecDepth 10000
def c_ref13_secret:LC:=(.seq (.ops [.z 3 (.box (.t 0)),.z 4 (.box (.t 1)),.z 6 (.move (.c (.bool false)))]) (.seq (.seq (.ops [.f 9 0 4,.l 10 9,.z 11 (.bin .eql true 3 (.t 10) (.c (.i 16)))]) (.cond (.t 11) (.seq (.ops [.z 6 (.move (.c (.bool false)))]) .ret) .skip)) (.seq (.seq (.ops [.f 12 0 4,.l 13 12,.z 14 (.bin .eql true 3 (.t 13) (.c (.i 14)))]) (.cond (.t 14) (.seq (.ops [.f 15 1 3,.l 16 15,.f 17 6 4,.l 18 17,.z 19 (.ixAddr 3 (.t 16) (.t 18)),.f 20 2 19,.l 21 20,.m 6 21]) .ret) .skip)) (.seq (.ops [.z 22 (.loadN 8 (.t 4)),.z 23 (.callV (.c (.fn (.func 143) [] [])) [.t 22]),.m 7 23]) (.seq (.seq (.ops [.z 8 (.move (.c (.i 0)))]) (.block 0 (.loop (.seq (.seq (.ops [.m 24 8,.m 25 7,.z 26 (.lenSl (.t 25)),.z 27 (.bin .lss false 3 (.t 24) (.t 26))]) (.cond (.t 27) .skip (.exit 0))) (.seq (.block 1 (.seq (.ops [.m 30 2,.m 31 7,.m 32 8,.z 33 (.ixAddr 1 (.t 31) (.t 32)),.l 34 33,.z 35 (.ixAddr 1 (.t 30) (.t 34)),.l 36 35]) (.cond (.t 36) (.seq (.ops [.z 6 (.move (.c (.bool true)))]) .ret) .skip))) (.ops [.m 28 8,.z 29 (.bin .add true 3 (.t 28) (.c (.i 1))),.m 8 29])))))) (.seq (.ops [.z 6 (.move (.c (.bool false)))]) .ret))))))
theorem r_ref13_secret:resFn Tryz.prog 145=some ⟨37,c_ref13_secret.r,[.tmp 6]⟩:=by kernel_rfl
theorem k_ref13_secret:c_ref13_secret.ok=true:=by kernel_rfl
def c_ref13_Secret:LC:=(.seq (.ops [.z 1 (.box (.t 0)),.z 2 (.move (.c .nilSl))]) (.seq (.ops [.z 11 (.loadN 3 (.t 1)),.z 12 (.callV (.c (.fn (.func 78) [] [])) [.t 11]),.m 10 12,.z 13 (.extract 0 (.t 10)),.z 14 (.extract 1 (.t 10)),.m 3 13,.m 4 14]) (.seq (.seq (.ops [.m 15 4,.z 16 (.bin .neq true 35 (.t 15) (.c (.i 0)))]) (.cond (.t 16) (.seq (.ops [.z 2 (.move (.c .nilSl))]) .ret) .skip)) (.seq (.ops [.f 17 0 1,.l 18 17,.z 19 (.mkSl 1 [(.bool false)] (.t 18) (.t 18)),.m 5 19]) (.seq (.seq (.ops [.z 6 (.move (.c (.bool true)))]) (.block 0 (.loop (.seq (.seq (.ops [.m 20 6]) (.cond (.t 20) .skip (.exit 0))) (.block 1 (.seq (.ops [.z 6 (.move (.c (.bool false)))]) (.seq (.ops [.z 7 (.move (.c (.i 0)))]) (.block 2 (.loop (.seq (.seq (.ops [.m 21 7,.f 22 2 1,.l 23 22,.z 24 (.lenSl (.t 23)),.z 25 (.bin .lss false 3 (.t 21) (.t 24))]) (.cond (.t 25) .skip (.exit 2))) (.seq (.block 3 (.seq (.ops [.f 28 2 1,.l 29 28,.m 30 7,.z 31 (.ixAddr 8 (.t 29) (.t 30)),.z 32 (.loadN 8 (.t 31)),.z 33 (.callV (.c (.fn (.func 142) [] [])) [.t 32]),.m 8 33]) (.seq (.ops [.z 9 (.move (.c (.i 0)))]) (.block 4 (.loop (.seq (.seq (.ops [.m 34 9,.m 35 8,.z 36 (.lenSl (.t 35)),.z 37 (.bin .lss false 3 (.t 34) (.t 36))]) (.cond (.t 37) .skip (.exit 4))) (.seq (.block 5 (.seq (.draw [(.m 40 5,[]),(.m 41 8,[]),(.m 42 9,[]),(.z 43 (.ixAddr 1 (.t 41) (.t 42)),[]),(.l 44 43,[]),(.z 45 (.ixAddr 1 (.t 40) (.t 44)),[]),(.l 46 45,[]),(.z 47 (.un .not (.t 46)),[]),(.m 48 47,[]),(⟨some 49,(some (48,true)),.loadN 3 (.t 1)⟩,[]),(⟨some 50,(some (48,true)),.fieldAddr 2 (.t 1)⟩,[]),(⟨some 51,(some (48,true)),.load1 (.t 50)⟩,[]),(⟨some 52,(some (48,true)),.move (.t 7)⟩,[]),(⟨some 53,(some (48,true)),.ixAddr 8 (.t 51) (.t 52)⟩,[]),(⟨some 54,(some (48,true)),.loadN 8 (.t 53)⟩,[]),(⟨some 55,(some (48,true)),.move (.t 5)⟩,[]),(⟨some 56,(some (48,true)),.callV (.c (.fn (.func 145) [] [])) [.t 49,.t 54,.t 55]⟩,[]),(.z 57 (.pick (.t 48) (.t 56) (.c (.bool false))),[])]) (.cond (.t 57) (.ops [.m 58 5,.m 59 8,.m 60 9,.z 61 (.ixAddr 1 (.t 59) (.t 60)),.l 62 61,.z 63 (.ixAddr 1 (.t 58) (.t 62)),⟨none,none,.store 1 (.t 63) (.c (.bool true))⟩,.z 6 (.move (.c (.bool true)))]) .skip))) (.ops [.m 38 9,.z 39 (.bin .add true 3 (.t 38) (.c (.i 1))),.m 9 39])))))))) (.ops [.m 26 7,.z 27 (.bin .add true 3 (.t 26) (.c (.i 1))),.m 7 27])))))))))))) (.seq (.ops [.m 64 5,.m 2 64]) .ret))))))
theorem r_ref13_Secret:resFn Tryz.prog 79=some ⟨65,c_ref13_Secret.r,[.tmp 2]⟩:=by kernel_rfl
theorem k_ref13_Secret:c_ref13_Secret.ok=true:=by kernel_rfl
def c_ref13_Check:LC:=(.seq (.ops [.z 1 (.box (.t 0)),.z 2 (.move (.c (.i 0))),.z 3 (.move (.c (.i 0)))]) (.seq (.ops [.z 11 (.loadN 3 (.t 1)),.z 12 (.callV (.c (.fn (.func 78) [] [])) [.t 11]),.m 10 12,.z 13 (.extract 0 (.t 10)),.z 14 (.extract 1 (.t 10)),.m 4 13,.m 5 14]) (.seq (.seq (.ops [.m 15 5,.z 16 (.bin .neq true 35 (.t 15) (.c (.i 0)))]) (.cond (.t 16) (.seq (.ops [.m 17 4,.m 18 5,.m 2 17,.m 3 18]) .ret) .skip)) (.seq (.ops [.z 19 (.loadN 3 (.t 1)),.z 20 (.callV (.c (.fn (.func 79) [] [])) [.t 19]),.m 6 20]) (.seq (.seq (.ops [.z 7 (.move (.c (.i 0)))]) (.block 0 (.loop (.seq (.seq (.ops [.m 21 7,.f 22 2 1,.l 23 22,.z 24 (.lenSl (.t 23)),.z 25 (.bin .lss false 3 (.t 21) (.t 24))]) (.cond (.t 25) .skip (.exit 0))) (.seq (.block 1 (.seq (.ops [.f 28 2 1,.l 29 28,.m 30 7,.z 31 (.ixAddr 8 (.t 29) (.t 30)),.z 32 (.loadN 8 (.t 31)),.z 8 (.alloc [(.i 0),(.i 0),(.i 0),(.i 0),(.i 0),(.i 0),(.i 0),(.u 0)]),⟨none,none,.store 8 (.t 8) (.t 32)⟩]) (.seq (.ops [.f 33 0 8,.l 34 33,.z 35 (.bin .eql true 3 (.t 34) (.c (.i 14))),.m 36 35,⟨some 37,(some (36,false)),.fieldAddr 0 (.t 8)⟩,⟨some 38,(some (36,false)),.load1 (.t 37)⟩,⟨some 39,(some (36,false)),.bin .eql true 3 (.t 38) (.c (.i 15))⟩,.z 40 (.pick (.t 36) (.c (.bool true)) (.t 39)),.m 9 40]) (.seq (.ops [.m 41 9,.m 42 41,⟨some 43,(some (42,true)),.fieldAddr 3 (.t 8)⟩,⟨some 44,(some (42,true)),.load1 (.t 43)⟩,⟨some 45,(some (42,true)),.bin .geq true 3 (.t 44) (.c (.i 0))⟩,.z 46 (.pick (.t 42) (.t 45) (.c (.bool false))),.m 47 46,⟨some 48,(some (47,true)),.move (.t 6)⟩,⟨some 49,(some (47,true)),.fieldAddr 3 (.t 8)⟩,⟨some 50,(some (47,true)),.load1 (.t 49)⟩,⟨some 51,(some (47,true)),.ixAddr 1 (.t 48) (.t 50)⟩,⟨some 52,(some (47,true)),.load1 (.t 51)⟩,.z 53 (.pick (.t 47) (.t 52) (.c (.bool false))),.m 54 53,⟨some 55,(some (54,false)),.fieldAddr 0 (.t 8)⟩,⟨some 56,(some (54,false)),.load1 (.t 55)⟩,⟨some 57,(some (54,false)),.bin .eql true 3 (.t 56) (.c (.i 15))⟩,⟨some 58,(some (54,false)),.move (.t 57)⟩,⟨some 59,(some (58,true)),.move (.t 6)⟩,⟨some 60,(some (58,true)),.fieldAddr 4 (.t 8)⟩,⟨some 61,(some (58,true)),.load1 (.t 60)⟩,⟨some 62,(some (58,true)),.ixAddr 1 (.t 59) (.t 61)⟩,⟨some 63,(some (58,true)),.load1 (.t 62)⟩,⟨some 64,(some (54,false)),.pick (.t 58) (.t 63) (.c (.bool false))⟩,⟨some 65,(some (54,false)),.move (.t 64)⟩,⟨some 66,(some (65,true)),.fieldAddr 1 (.t 1)⟩,⟨some 67,(some (65,true)),.load1 (.t 66)⟩,⟨some 68,(some (65,true)),.fieldAddr 6 (.t 8)⟩,⟨some 69,(some (65,true)),.load1 (.t 68)⟩,⟨some 70,(some (65,true)),.ixAddr 3 (.t 67) (.t 69)⟩,⟨some 71,(some (65,true)),.fieldAddr 2 (.t 70)⟩,⟨some 72,(some (65,true)),.load1 (.t 71)⟩,⟨some 73,(some (65,true)),.un .not (.t 72)⟩,⟨some 74,(some (54,false)),.pick (.t 65) (.t 73) (.c (.bool false))⟩,.z 75 (.pick (.t 54) (.c (.bool true)) (.t 74)),.m 76 75,⟨some 77,(some (76,false)),.fieldAddr 0 (.t 8)⟩,⟨some 78,(some (76,false)),.load1 (.t 77)⟩,⟨some 79,(some (76,false)),.bin .eql true 3 (.t 78) (.c (.i 16))⟩,⟨some 80,(some (76,false)),.move (.t 79)⟩,⟨some 81,(some (80,true)),.move (.t 6)⟩,⟨some 82,(some (80,true)),.fieldAddr 1 (.t 8)⟩,⟨some 83,(some (80,true)),.load1 (.t 82)⟩,⟨some 84,(some (80,true)),.ixAddr 1 (.t 81) (.t 83)⟩,⟨some 85,(some (80,true)),.load1 (.t 84)⟩,⟨some 86,(some (76,false)),.pick (.t 80) (.t 85) (.c (.bool false))⟩,.z 87 (.pick (.t 76) (.c (.bool true)) (.t 86))]) (.cond (.t 87) (.seq (.ops [.m 88 7,.m 2 88,.z 3 (.move (.c (.i 12)))]) .ret) .skip))))) (.ops [.m 26 7,.z 27 (.bin .add true 3 (.t 26) (.c (.i 1))),.m 7 27])))))) (.seq (.ops [.f 89 2 1,.l 90 89,.z 91 (.lenSl (.t 90)),.m 2 91,.z 3 (.move (.c (.i 0)))]) .ret))))))
theorem r_ref13_Check:resFn Tryz.prog 25=some ⟨92,c_ref13_Check.r,[.tmp 2,.tmp 3]⟩:=by kernel_rfl
theorem k_ref13_Check:c_ref13_Check.ok=true:=by kernel_rfl
theorem buf_of {regs:Int} {bs:List Bf} {o:Lo} (h:fieldsR regs bs o=true) (hk:o.kind=14∨o.kind=15):0≤o.buf∧o.buf.toNat < bs.length:=by
 unfold fieldsR at h
 simp only[Bool.and_eq_true,decide_eq_true_eq] at h
 obtain⟨⟨k1,k2⟩,d,e,a,b,c,f,g⟩:=h
 rw[if_pos (by rcases hk with q | q <;> simp[memK,q])] at g
 simp only[Bool.and_eq_true,decide_eq_true_eq] at g
 omega
theorem ref13_secret_ok {r:Nat} {bs:List Bf} {os:List Lo} {m:List Bool} {o:Lo} (hf:fieldsR r bs o=true) (hm:m.length=r) :
  FnV Tryz.prog 145 [.agg (lpV r bs os),.agg o.f,.lst (m.map .bool) r 1] (.bool (secR bs m o)):=by
 refine FnV.mk rfl (call_body r_ref13_secret k_ref13_secret (by simp) ?_)
 have hC:o.f=[.i o.kind,.i o.d,.i o.e,.i o.a,.i o.b,.i o.c,.i o.buf,.u o.imm]:=rfl
 obtain⟨ht,_,_⟩:=fieldsR_regs hf
 generalize hR:secR bs m o=R
 unfold secR at hR
 by_cases k16:o.kind=16
 ·rw[if_pos k16] at hR
  simp[c_ref13_secret,lpV,hC,k16,hR]
 rw[if_neg k16] at hR
 by_cases k14:o.kind=14
 ·rw[if_pos k14] at hR
  obtain⟨b0,b1⟩:=buf_of hf (.inl k14)
  obtain⟨bn,hbn⟩:=Int.eq_ofNat_of_zero_le b0
  rw[hbn] at b1 hR
  simp only[Int.toNat_natCast] at b1 hR
  have q2:=bf_at2 (at_gbf b1)
  simp[c_ref13_secret,lpV,hC,k14,hbn,b1,nthL_at q2,hR]
 rw[if_neg k14] at hR
 simp[c_ref13_secret,lpV,hC,k16,k14]
 refine CallL_V (by rw[←hC]; exact ref12_Takes_ok o) (by simp[dats,LV.dat]) ?_
 simp
 have htk:=takesR_len o
 refine loop_nx (fun ρ D G N=>∃ j:Nat,D=[]∧N+j=(takesR o).length∧lk ρ 2=.lst (m.map .bool) r 1∧lk ρ 7=.lst ((takesR o).map .i) (takesR o).length 1∧lk ρ 8=.i j∧∀ x∈(takesR o).take j,madeR m x=false) (N:=(takesR o).length)
  ⟨0,rfl,by omega,by simp,by simp,by simp,by simp⟩ ?_
 rintro N ρ D G ⟨j,rfl,hN,h2,h7,h8,hp⟩ Nx hNx
 by_cases gj:j < (takesR o).length
 ·have hg:=map_at (f:=LV.i) (at_getD gj)
  have htk2:=gl_take gj
  have hmem:=gd_mem gj
  generalize gd (takesR o) j=x at *
  obtain⟨x0,xr⟩:=ht x hmem
  obtain⟨xn,rfl⟩:=Int.eq_ofNat_of_zero_le x0
  have hxr:xn < r:=by omega
  have hmx:(m.map LV.bool)[xn]?=some (.bool (madeR m (xn:Int))):=by simp[madeR,hm,hxr]
  cases hmd:madeR m (xn:Int) with
  | true =>
   rw[hmd] at hmx
   rw[show (takesR o).any (madeR m)=true from List.any_eq_true.2 ⟨_,hmem,hmd⟩] at hR
   subst hR
   simp[h2,h7,h8,gj,nthL_at hg,hxr,nthL_at hmx]
  | false =>
   rw[hmd] at hmx
   simp[h2,h7,h8,gj,nthL_at hg,hxr,nthL_at hmx]
   refine⟨by omega,hNx _ _ _ ⟨N - 1,by omega,j+1,rfl,by omega,by simp[h2],by simp[h7],by simp,fun y hy=>?_⟩⟩
   rw[htk2] at hy
   rcases List.mem_append.1 hy with hy | hy
   ·exact hp y hy
   ·simp at hy; rw[hy]; exact hmd
 ·rw[List.take_of_length_le (by omega)] at hp
  have:(takesR o).any (madeR m)=false:=by rw[List.any_eq_false]; intro x hx; simp[hp x hx]
  rw[this] at hR
  subst hR
  simp[h2,h7,h8,gj]
theorem dats_bools (l:List Bool):dats (l.map .bool)=true:=by induction l <;> simp_all [dats,LV.dat]
theorem ref13_Secret_ok {r:Nat} {bs:List Bf} {os:List Lo} (hc:(chkR r bs os).2=0) :
  FnV Tryz.prog 79 [.agg (lpV r bs os)] (.lst ((secL r bs os).map .bool) r 1):=by
 obtain⟨hr0,hr64,hbl,hol,hbsz,hfs⟩:=chkR_parts hc
 refine FnV.mk (by simp[LV.dat,dats_bools]) (call_body r_ref13_Secret k_ref13_Secret (by simp) ?_)
 have hdp:dats (lpV r bs os)=true:=lpV_dats _ _ _
 simp[c_ref13_Secret,lpV]
 refine CallL_F (ref12_Check_ok r bs os) (bors_self _ (by simp[dats,LV.dat,lpV,bfC_dats,loC_dats])) ?_
 simp[hc]
 refine⟨by omega,?_⟩
 have hmk:∀ o∈os,∀ x∈makesR o,0≤x∧x < (r:Int):=fun o ho=>(fieldsR_regs (hfs o ho)).2.1
 refine loop_nx (fun ρ D G N=>∃ (st n:Nat) (m:List Bool) (more:Bool),D=[]∧N=(if more=true then n+1 else 0)∧lk ρ 1=.ptr 0 0∧lk ρ 5=.dy 1 0∧lk ρ 6=.bool more∧G[0]?=some (.cells (lpV r bs os) 0)∧G[1]?=some (.dyn (m.map .bool) r 1 0 st)∧m.length=r∧(more=true→cntF m < n)∧(if more=true then fixS bs os n m else m)=secL r bs os) (N:=r+1+1)
  ⟨0,r+1,List.replicate r false,true,rfl,by simp,by simp,by simp,by simp,by simp[lpV],by simp[repBs],by simp,fun _=>?_,by simp[secL]⟩ ?_
 ·have:cntF (List.replicate r false)≤r:=by unfold cntF; exact Nat.le_trans (List.countP_le_length) (by simp)
  omega
 rintro N ρ D G ⟨st,n,m,more,rfl,hN,h1,h5,h6,hG0,hG1,hml,hcnt,hL⟩ Nx hNx
 cases more with
 | false =>
  simp at hL
  simp[h5,h6]
  exact⟨_,_,_,⟨rfl,rfl,rfl⟩,⟨st,by rw[hG1,hL]⟩,dats_bools _⟩
 | true =>
 simp at hN hcnt hL
 subst hN
 obtain⟨n,rfl⟩:∃ k,n=k+1:=⟨n - 1,by omega⟩
 rw[fixS] at hL
 simp[h5,h6]
 refine loop_nx (fun ρ D G N=>∃ (i st:Nat) (m2:List Bool) (more2:Bool),D=[]∧N+i=os.length∧lk ρ 1=.ptr 0 0∧lk ρ 5=.dy 1 0∧lk ρ 6=.bool more2∧lk ρ 7=.i i∧G[0]?=some (.cells (lpV r bs os) 0)∧G[1]?=some (.dyn (m2.map .bool) r 1 0 st)∧m2.length=r∧passS bs (os.drop i) (m2,more2)=passS bs os (m,false)) (N:=os.length)
  ⟨0,st,m,false,rfl,by omega,by simp[h1],by simp[h5],by simp,by simp,hG0,hG1,hml,by simp⟩ ?_
 clear h1 h5 h6 hG0 hG1
 rintro N ρ D G ⟨i,st2,m2,more2,rfl,hN,h1,h5,h6,h7,hG0,hG1,hml2,hps⟩ Nx2 hNx2
 have l0:=(List.getElem?_eq_some_iff.1 hG0).1
 have l1:=(List.getElem?_eq_some_iff.1 hG1).1
 by_cases g:i < os.length
 case neg =>
  rw[List.drop_of_length_le (by omega),passS] at hps
  rw[←hps] at hL
  have hdn:=passS_dn bs os (m,false) (by rw[hml]; exact hmk)
  rw[←hps] at hdn
  have hgi:¬ i < os.length:=g
  simp[h1,h7,hG0,lpV,hgi]
  refine hNx _ _ _ ⟨if more2=true then n+1 else 0,by split <;> omega,st2,n,m2,more2,rfl,rfl,by simp[h1],by simp[h5],by simp[h6],hG0,hG1,hml2,fun hm=>?_,by simpa using hL⟩
  have:=hdn.2 hm
  simp at this
  omega
 have ho:=at_glo g
 have hmem:glo os i∈os:=List.mem_of_getElem? ho
 rw[drop_glo g,passS] at hps
 have ho8:=lo_eight ho
 have hlt:=lo_lt g
 generalize glo os i=o at *
 have hC:o.f=[.i o.kind,.i o.d,.i o.e,.i o.a,.i o.b,.i o.c,.i o.buf,.u o.imm]:=rfl
 simp[h1,h7,hG0,lpV,g,ho8,hlt]
 refine CallL_V (ref12_Makes_ok o) (by simp[dats,LV.dat,hC]) ?_
 simp
 have hmo:=hmk o hmem
 refine loop_nx (fun ρ D G N=>∃ (j st:Nat) (m3:List Bool) (more3:Bool),D=[]∧N+j=(makesR o).length∧lk ρ 1=.ptr 0 0∧lk ρ 5=.dy 1 0∧lk ρ 6=.bool more3∧lk ρ 7=.i i∧lk ρ 8=.lst ((makesR o).map .i) (makesR o).length 1∧lk ρ 9=.i j∧G[0]?=some (.cells (lpV r bs os) 0)∧G[1]?=some (.dyn (m3.map .bool) r 1 0 st)∧m3.length=r∧mkS bs o ((makesR o).drop j) (m3,more3)=mkS bs o (makesR o) (m2,more2)) (N:=(makesR o).length)
  ⟨0,st2,m2,more2,rfl,by omega,by simp[h1],by simp[h5],by simp[h6],by simp[h7],by simp,by simp,hG0,hG1,hml2,by simp⟩ ?_
 clear h1 h5 h6 h7 hG0 hG1 l0 l1
 rintro N3 ρ D G3 ⟨j,st3,m3,more3,rfl,hN3,h1,h5,h6,h7,h8,h9,hG0,hG1,hml3,hmk3⟩ Nx3 hNx3
 have l0:=(List.getElem?_eq_some_iff.1 hG0).1
 have l1:=(List.getElem?_eq_some_iff.1 hG1).1
 have hmkl:=makesR_len o
 by_cases gj:j < (makesR o).length
 ·have hg:=map_at (f:=LV.i) (at_getD gj)
  have hdr:(makesR o).drop j=gd (makesR o) j::(makesR o).drop (j+1):=by
   rw[List.drop_eq_getElem_cons gj]; simp[gd,List.getD_eq_getElem?_getD,gj]
  have hmm:=gd_mem gj
  rw[hdr,mkS] at hmk3
  generalize gd (makesR o) j=x at *
  obtain⟨x0,xr⟩:=hmo x hmm
  obtain⟨xn,rfl⟩:=Int.eq_ofNat_of_zero_le x0
  have hxr:xn < r:=by omega
  have hmx:(m3.map LV.bool)[xn]?=some (.bool (madeR m3 (xn:Int))):=by simp[madeR,hml3,hxr]
  cases hmd:madeR m3 (xn:Int) with
  | true =>
   rw[hmd] at hmx
   simp[hmd] at hmk3
   simp[h1,h5,h7,h8,h9,gj,nthL_at hg,hG0,hG1,hxr,nthL_at hmx]
   refine⟨by omega,hNx3 _ _ _ ⟨N3 - 1,by omega,j+1,st3,m3,more3,rfl,by omega,by simp[h1],by simp[h5],by simp[h6],by simp[h7],by simp[h8],by simp,hG0,hG1,hml3,hmk3⟩⟩
  | false =>
   rw[hmd] at hmx
   have hsec:=ref13_secret_ok (os:=os) (hfs o hmem) hml3
   simp[h1,h5,h7,h8,h9,gj,nthL_at hg,hG0,hG1,hxr,nthL_at hmx,lpV,g,ho8,hlt]
   have hb:bors G3 [.agg (lpV r bs os),.agg o.f,.dy 1 0] [.agg (lpV r bs os),.agg o.f,.lst (m3.map .bool) r 1]:=⟨_,_,rfl,⟨_,rfl,bors_self _ hdp⟩,_,_,rfl,⟨_,rfl,bors_self _ (by simp[hC,dats,LV.dat])⟩,_,_,rfl,⟨_,r,1,st3,rfl,hG1,dats_bools _⟩,rfl⟩
   refine CallL_B hsec hb rfl ?_
   have e1:layLV (m3.map LV.bool) xn [.bool true]=(m3.set xn true).map LV.bool:=by
    rw[show layLV (m3.map LV.bool) xn [.bool true]=(m3.map LV.bool).set xn (.bool true) by rw[List.set_eq_take_append_cons_drop,if_pos (by simp; omega)]; simp[layLV],List.map_set]
   cases hsv:secR bs m3 o with
   | false =>
    simp[hmd,hsv] at hmk3
    simp[h9]
    refine⟨by omega,hNx3 _ _ _ ⟨N3 - 1,by omega,j+1,st3,m3,more3,rfl,by omega,by simp[h1],by simp[h5],by simp[h6],by simp[h7],by simp[h8],by simp,hG0,hG1,hml3,hmk3⟩⟩
   | true =>
    simp[hmd,hsv] at hmk3
    simp[h5,h8,h9,gj,nthL_at hg,hG1,hxr,hml3,e1]
    refine⟨by omega,by omega,hNx3 _ _ _ ⟨N3 - 1,by omega,j+1,st3+1,m3.set xn true,true,rfl,by omega,by simp[h1],by simp[h5],by simp,by simp[h7],by simp[h8],by simp,?_,?_,by simp[hml3],hmk3⟩⟩
    ·rw[List.getElem?_set_ne (by omega)]; exact hG0
    ·rw[←List.map_set]; exact List.getElem?_set_self l1
 ·have hgj:¬ j < (makesR o).length:=gj
  rw[List.drop_of_length_le (by omega),mkS] at hmk3
  rw[←hmk3] at hps
  simp[h7,h8,h9,hgj]
  refine⟨by omega,hNx2 _ _ _ ⟨N - 1,by omega,i+1,st3,m3,more3,rfl,by omega,by simp[h1],by simp[h5],by simp[h6],by simp,hG0,hG1,hml3,hps⟩⟩
theorem ref13_Check_ok {r:Nat} {bs:List Bf} {os:List Lo} {C:Int→Bool} (hc:(chkR r bs os).2=0) (hcl:Closed bs C os) (hsf:∀ o∈os,safeR bs C o=true) :
  FnV Tryz.prog 25 [.agg (lpV r bs os)] (.tup [.i os.length,.i 0]):=by
 obtain⟨hr0,hr64,hbl,hol,hbsz,hfs⟩:=chkR_parts hc
 refine FnV.mk rfl (call_body r_ref13_Check k_ref13_Check (by simp) ?_)
 have hdp:dats (lpV r bs os)=true:=lpV_dats _ _ _
 simp[c_ref13_Check,lpV]
 refine CallL_F (ref12_Check_ok r bs os) (bors_self _ (by simp[dats,LV.dat,lpV,bfC_dats,loC_dats])) ?_
 simp[hc]
 refine CallL_V (ref13_Secret_ok hc) (by simp[dats,LV.dat,lpV,bfC_dats,loC_dats]) ?_
 have hsub:Sub (secL r bs os) C:=fixS_sub (fun o ho x hx=>((fieldsR_regs (hfs o ho)).1 x hx).1) (fun o ho x hx=>((fieldsR_regs (hfs o ho)).2.1 x hx).1) hcl _ _ (Sub.none _ _)
 have hll:(secL r bs os).length=r:=by unfold secL; rw[fixS_len]; simp
 generalize secL r bs os=L at *
 simp
 refine loop_nx (fun ρ D G N=>∃ i:Nat,D=[]∧N+i=os.length∧lk ρ 1=.ptr 0 0∧lk ρ 6=.lst (L.map .bool) r 1∧lk ρ 7=.i i∧G[0]?=some (.cells (lpV r bs os) 0)) (N:=os.length)
  ⟨0,rfl,by omega,by simp,by simp,by simp,by simp[lpV]⟩ ?_
 rintro N ρ D G ⟨i,rfl,hN,h1,h6,h7,hG0⟩ Nx hNx
 have l0:=(List.getElem?_eq_some_iff.1 hG0).1
 by_cases g:i < os.length
 case neg =>
  have hgi:¬ i < os.length:=g
  simp[h1,h7,hG0,lpV,hgi]
 have ho:=at_glo g
 have hmem:glo os i∈os:=List.mem_of_getElem? ho
 have ho8:=lo_eight ho
 have hlt:=lo_lt g
 have hf:=hfs _ hmem
 have hs:=hsf _ hmem
 generalize glo os i=o at *
 have hC:o.f=[.i o.kind,.i o.d,.i o.e,.i o.a,.i o.b,.i o.c,.i o.buf,.u o.imm]:=rfl
 have p0:∀ x:List LObj,(G++x)[0]?=some _:=fun x=>(oldP l0).trans hG0
 obtain⟨ht,hm,hd⟩:=fieldsR_regs hf
 have hb15:o.kind=15→0≤o.b:=fun q=>(ht o.b (by unfold takesR; simp[q]; split <;> simp)).1
 have hs:=safe_sub hsub hb15 (fun q=>(hd q).1) hs
 have ix:∀ x:Int,0≤x→x < r→∃ n:Nat,x=n∧n < r∧(L.map LV.bool)[n]?=some (.bool (madeR L x)):=fun x h0 h1=>by
  obtain⟨n,rfl⟩:=Int.eq_ofNat_of_zero_le h0
  exact ⟨n, rfl, by omega, by have : n < L.length := by omega
                              simp[madeR,this]⟩
 have next:∀ (ρ':LEnv) (G':LHeap),lk ρ' 1=.ptr 0 0→lk ρ' 6=.lst (L.map .bool) r 1→lk ρ' 7=.i ((i:Int)+1)→G'[0]?=some (.cells (lpV r bs os) 0)→Nx ρ' [] G':=fun ρ' G' a1 a6 a7 b0=>hNx _ _ _ ⟨N - 1,by omega,i+1,rfl,by omega,a1,a6,by rw[a7]; simp,b0⟩
 have q0:∀ x:List LObj,(G++x)[0]?=some (.cells (lpV r bs os) 0):=fun x=>(oldP l0).trans hG0
 unfold safeR at hs
 by_cases k14:o.kind=14
 ·by_cases ha:0≤o.a
  ·have hta:=ht o.a (by unfold takesR; rw[if_neg (by omega),if_neg (by omega),if_neg (by omega),if_pos (by omega)]; simp)
   simp[k14,memK,ha] at hs
   obtain⟨n,hn,hnr,hx⟩:=ix o.a hta.1 hta.2
   rw[hs] at hx
   simp[h1,h6,h7,hG0,lpV,g,ho8,hlt,hC,↓p0,k14,hn,hnr,nthL_at hx]
   refine⟨by omega,next _ _ (by simp[h1]) (by simp[h6]) (by simp) (q0 _)⟩
  ·simp[h1,h6,h7,hG0,lpV,g,ho8,hlt,hC,↓p0,k14,ha]
   refine⟨by omega,next _ _ (by simp[h1]) (by simp[h6]) (by simp) (q0 _)⟩
 by_cases k15:o.kind=15
 ·have htb:=ht o.b (by unfold takesR; simp[k15]; split <;> simp)
  obtain⟨b0,b1⟩:=buf_of hf (.inr k15)
  obtain⟨bn,hbn⟩:=Int.eq_ofNat_of_zero_le b0
  rw[hbn] at b1
  simp only[Int.toNat_natCast] at b1
  have q2:=bf_at2 (at_gbf b1)
  obtain⟨nb,hnb,hnbr,hxb⟩:=ix o.b htb.1 htb.2
  simp[k15,memK,hbn] at hs
  by_cases ha:0≤o.a
  ·have hta:=ht o.a (by unfold takesR; rw[if_neg (by omega),if_neg (by omega),if_neg (by omega),if_neg (by omega),if_pos (by omega)]; simp)
   obtain⟨n,hn,hnr,hx⟩:=ix o.a hta.1 hta.2
   rw[hs.1.resolve_left (by omega)] at hx
   cases hq:madeR L o.b with
   | false =>
    rw[hq] at hxb
    simp[h1,h6,h7,hG0,lpV,g,ho8,hlt,hC,↓p0,k15,hn,hnr,nthL_at hx,hnb,hnbr,nthL_at hxb]
    refine⟨by omega,next _ _ (by simp[h1]) (by simp[h6]) (by simp) (q0 _)⟩
   | true =>
    rw[hq] at hxb
    have hsec:(gbf bs bn).sec=true:=by simpa [hq] using hs.2
    rw[hsec] at q2
    simp[h1,h6,h7,hG0,lpV,g,ho8,hlt,hC,↓p0,k15,hn,hnr,nthL_at hx,hnb,hnbr,nthL_at hxb,hbn,b1,nthL_at q2]
    refine⟨by omega,next _ _ (by simp[h1]) (by simp[h6]) (by simp) (q0 _)⟩
  ·cases hq:madeR L o.b with
   | false =>
    rw[hq] at hxb
    simp[h1,h6,h7,hG0,lpV,g,ho8,hlt,hC,↓p0,k15,ha,hnb,hnbr,nthL_at hxb]
    refine⟨by omega,next _ _ (by simp[h1]) (by simp[h6]) (by simp) (q0 _)⟩
   | true =>
    rw[hq] at hxb
    have hsec:(gbf bs bn).sec=true:=by simpa [hq] using hs.2
    rw[hsec] at q2
    simp[h1,h6,h7,hG0,lpV,g,ho8,hlt,hC,↓p0,k15,ha,hnb,hnbr,nthL_at hxb,hbn,b1,nthL_at q2]
    refine⟨by omega,next _ _ (by simp[h1]) (by simp[h6]) (by simp) (q0 _)⟩
 by_cases k16:o.kind=16
 ·obtain⟨n,hn,hnr,hx⟩:=ix o.d (hd k16).1 (hd k16).2
  simp[k16,memK] at hs
  rw[hs] at hx
  simp[h1,h6,h7,hG0,lpV,g,ho8,hlt,hC,↓p0,k16,hn,hnr,nthL_at hx]
  refine⟨by omega,next _ _ (by simp[h1]) (by simp[h6]) (by simp) (q0 _)⟩
 ·simp[h1,h6,h7,hG0,lpV,g,ho8,hlt,hC,↓p0,k14,k15,k16]
  refine⟨by omega,next _ _ (by simp[h1]) (by simp[h6]) (by simp) (q0 _)⟩
end Go.Proofs.YtodjkjimaheggaaGreat
