/- Limb programs, by the document: run. -/
import Derived.Test.YtodjkjimaheggaaGreatSvG3

import Derived.Test.YtodjkjimaheggaaGreatFnMd
namespace Go.Proofs.YtodjkjimaheggaaGreat
open Go.Sv
set_option linter.unusedSimpArgs false
set_option maxRecDepth 10000
def zc9:LC:=(.seq (.ops [.z 2 (.box (.t 0)),.z 4 (.move (.c .nilSl)),.z 5 (.move (.c .nilSl)),.z 6 (.move (.c (.i 0)))]) (.seq (.ops [.z 18 (.loadN 3 (.t 2)),.z 19 (.callV (.c (.fn (.func 78) [] [])) [.t 18]),.m 17 19,.z 20 (.extract 0 (.t 17)),.z 21 (.extract 1 (.t 17)),.m 7 20,.m 8 21]) (.seq (.seq (.ops [.m 22 8,.z 23 (.bin .eql true 35 (.t 22) (.c (.i 0))),.m 24 23,⟨some 25,(some (24,true)),.loadN 3 (.t 2)⟩,⟨some 26,(some (24,true)),.callV (.c (.fn (.func 85) [] [])) [.t 25]⟩,⟨some 27,(some (24,true)),.bin .gtr true 3 (.t 26) (.c (.i 16777216))⟩,.z 28 (.pick (.t 24) (.t 27) (.c (.bool false)))]) (.cond (.t 28) (.ops [.z 8 (.move (.c (.i 10)))]) .skip)) (.seq (.seq (.ops [.m 29 8,.z 30 (.bin .eql true 35 (.t 29) (.c (.i 0))),.m 31 30,⟨some 32,(some (31,true)),.loadN 3 (.t 2)⟩,⟨some 33,(some (31,true)),.move (.t 1)⟩,⟨some 34,(some (31,true)),.callV (.c (.fn (.func 86) [] [])) [.t 32,.t 33]⟩,⟨some 35,(some (31,true)),.un .not (.t 34)⟩,.z 36 (.pick (.t 31) (.t 35) (.c (.bool false)))]) (.cond (.t 36) (.ops [.z 8 (.move (.c (.i 2)))]) .skip)) (.seq (.seq (.ops [.m 37 8,.z 38 (.bin .neq true 35 (.t 37) (.c (.i 0)))]) (.cond (.t 38) (.seq (.ops [.m 39 8,.z 4 (.move (.c .nilSl)),.z 5 (.move (.c .nilSl)),.m 6 39]) .ret) .skip)) (.seq (.draw [(.z 40 (.loadN 3 (.t 2)),[]),(.f 41 0 2,[]),(.l 42 41,[]),(.z 43 (.mkSl 1 [(.u 0)] (.t 42) (.t 42)),[(.l 42 41,false),(.z 40 (.loadN 3 (.t 2)),false)]),(.z 44 (.build [(.i 0),.nilSl,.nilSl,.nilSl,.nilSl,.nilSl] [(0,3,.t 40),(3,1,.t 43)]),[]),(.z 45 (.box (.t 44)),[(.z 43 (.mkSl 1 [(.u 0)] (.t 42) (.t 42)),true),(.l 42 41,false),(.z 40 (.loadN 3 (.t 2)),false)]),(.m 9 45,[])]) (.seq (.seq (.ops [.z 10 (.move (.c (.i 0)))]) (.block 0 (.loop (.seq (.seq (.ops [.m 46 10,.m 47 1,.z 48 (.lenSl (.t 47)),.z 49 (.bin .lss false 3 (.t 46) (.t 48))]) (.cond (.t 49) .skip (.exit 0))) (.seq (.block 1 (.seq (.ops [.f 52 1 2,.l 53 52,.m 54 10,.z 55 (.ixAddr 3 (.t 53) (.t 54)),.f 56 0 55,.l 57 56,.z 58 (.mkSl 1 [(.u 0)] (.t 57) (.t 57)),.m 11 58]) (.seq (.ops [.m 59 11,.m 60 1,.m 61 10,.z 62 (.ixAddr 1 (.t 60) (.t 61)),.l 63 62,.z 64 (.copy 1 (.t 59) (.t 63))]) (.ops [.m 65 9,.m 66 9,.z 67 (.nilChk (.t 66)),.f 68 4 67,.l 69 68,.m 70 11,.z 71 (.buildSl 1 1 [.nilSl] [(0,1,.t 70)]),.z 72 (.appG 1 (.t 69) (.t 71)),.z 73 (.nilChk (.t 65)),.f 74 4 73,⟨none,none,.store 1 (.t 74) (.t 72)⟩])))) (.ops [.m 50 10,.z 51 (.bin .add true 3 (.t 50) (.c (.i 1))),.m 10 51])))))) (.seq (.ops [.z 75 (.loadN 3 (.t 2)),.z 76 (.callV (.c (.fn (.func 87) [] [])) [.t 75]),.m 12 76]) (.seq (.ops [.z 13 (.move (.c (.bool true)))]) (.seq (.seq (.ops [.z 14 (.move (.c (.i 0)))]) (.block 2 (.loop (.seq (.seq (.ops [.m 77 14,.f 78 2 2,.l 79 78,.z 80 (.lenSl (.t 79)),.z 81 (.bin .lss false 3 (.t 77) (.t 80))]) (.cond (.t 81) .skip (.exit 2))) (.seq (.block 3 (.seq (.ops [.f 84 2 2,.l 85 84,.m 86 14,.z 87 (.ixAddr 8 (.t 85) (.t 86)),.z 88 (.loadN 8 (.t 87)),.z 15 (.alloc [(.i 0),(.i 0),(.i 0),(.i 0),(.i 0),(.i 0),(.i 0),(.u 0)]),⟨none,none,.store 8 (.t 15) (.t 88)⟩]) (.seq (.ops [.f 89 0 15,.l 90 89]) (.block 4 (.seq (.ops [.z 100 (.bin .eql true 3 (.t 90) (.c (.i 16))),.m 99 100]) (.cond (.t 99) (.seq (.seq (.ops [.m 101 13]) (.cond (.t 101) (.draw [(.m 102 9,[]),(.z 103 (.nilChk (.t 102)),[]),(.f 104 3 103,[]),(.l 105 104,[]),(.f 106 1 15,[]),(.l 107 106,[]),(.z 108 (.ixAddr 1 (.t 105) (.t 107)),[]),(⟨none,none,.store 1 (.t 108) (.c (.u 0))⟩,[])]) .skip)) (.seq (.ops [.m 109 9,.m 110 9,.z 111 (.nilChk (.t 110)),.f 112 5 111,.l 113 112,.m 114 14,.z 115 (.build [(.i 0),(.i 0)] [(0,1,.t 114),(1,1,.c (.i (-1)))]),.z 116 (.buildSl 2 1 [(.i 0),(.i 0)] [(0,2,.t 115)]),.z 117 (.appG 2 (.t 113) (.t 116)),.z 118 (.nilChk (.t 109)),.f 119 5 118,⟨none,none,.store 1 (.t 119) (.t 117)⟩]) (.ops [.z 13 (.move (.c (.bool true)))]))) (.seq (.ops [.z 121 (.bin .eql true 3 (.t 90) (.c (.i 17))),.m 120 121]) (.cond (.t 120) (.seq (.draw [(.f 122 2 2,[]),(.l 123 122,[]),(.m 124 12,[]),(.m 125 14,[]),(.z 126 (.ixAddr 1 (.t 124) (.t 125)),[]),(.l 127 126,[]),(.z 128 (.ixAddr 8 (.t 123) (.t 127)),[]),(.z 129 (.loadN 8 (.t 128)),[]),(.z 16 (.alloc [(.i 0),(.i 0),(.i 0),(.i 0),(.i 0),(.i 0),(.i 0),(.u 0)]),[(.z 129 (.loadN 8 (.t 128)),false),(.l 127 126,false),(.l 123 122,false)]),(⟨none,none,.store 8 (.t 16) (.t 129)⟩,[])]) (.seq (.draw [(.m 130 9,[]),(.z 131 (.nilChk (.t 130)),[]),(.f 132 3 131,[]),(.l 133 132,[]),(.f 134 1 16,[]),(.l 135 134,[]),(.z 136 (.ixAddr 1 (.t 133) (.t 135)),[]),(.l 137 136,[]),(.z 138 (.bin .add true 23 (.t 137) (.c (.u 1))),[]),(.f 139 7 16,[]),(.l 140 139,[]),(.z 141 (.bin .lss false 23 (.t 138) (.t 140)),[])]) (.cond (.t 141) (.seq (.draw [(.m 142 9,[]),(.z 143 (.nilChk (.t 142)),[]),(.f 144 3 143,[]),(.l 145 144,[]),(.f 146 1 16,[]),(.l 147 146,[]),(.z 148 (.ixAddr 1 (.t 145) (.t 147)),[]),(.l 149 148,[]),(.z 150 (.bin .add true 23 (.t 149) (.c (.u 1))),[]),(.z 151 (.ixAddr 1 (.t 145) (.t 147)),[]),(⟨none,none,.store 1 (.t 151) (.t 150)⟩,[])]) (.seq (.ops [.z 13 (.move (.c (.bool false)))]) (.ops [.m 152 12,.m 153 14,.z 154 (.ixAddr 1 (.t 152) (.t 153)),.l 155 154,.z 156 (.bin .sub true 3 (.t 155) (.c (.i 1))),.m 14 156]))) .skip))) (.seq (.ops [.m 91 9,.m 92 14,.z 93 (.callV (.c (.fn (.func 88) [] [])) [.t 91,.t 92]),.z 94 (.un .not (.t 93))]) (.cond (.t 94) (.seq (.draw [(.m 95 9,[]),(.z 96 (.nilChk (.t 95)),[]),(.f 97 5 96,[]),(.l 98 97,[]),(.z 4 (.move (.c .nilSl)),[]),(.m 5 98,[]),(.z 6 (.move (.c (.i 11))),[])]) .ret) .skip)))))))))) (.ops [.m 82 14,.z 83 (.bin .add true 3 (.t 82) (.c (.i 1))),.m 14 83])))))) (.seq (.draw [(.m 157 9,[]),(.z 158 (.nilChk (.t 157)),[]),(.f 159 4 158,[]),(.l 160 159,[]),(.m 161 9,[]),(.z 162 (.nilChk (.t 161)),[]),(.f 163 5 162,[]),(.l 164 163,[]),(.m 4 160,[]),(.m 5 164,[]),(.z 6 (.move (.c (.i 0))),[])]) .ret)))))))))))
theorem r_ref12_Run:z0f Tryz.prog 29=some ⟨165,zc9.r,[.tmp 4,.tmp 5,.tmp 6]⟩:=by kernel_rfl
theorem k_ref12_Run:zc9.ok=true:=by kernel_rfl
theorem MsH.push_ev {G:z03} {x pr pb kb:Nat} {qs:List Nat} {b:Nat} {regs:Int} {bs:List Bf} {os:List Lo} {L:LV} {s:Ms} {K:LV→z03→Prop} {tmp:LObj} {G':z03} {i pl:Int} (hG:G'=G++[tmp]) (hm:MsH G x pr pb kb qs b regs bs os L s) (hll:s.l.length≤1000000000)
  (k:∀ (L':LV) (G5:z03),L'.cells=some [L']→(∀ q,q < b→G5[q]?=G[q]?)→(∀ (st':Nat),MsH (G5.set x (.cells [.i regs,.lst (bfC bs) bs.length 3,.lst (loC os) os.length 8,.dy pr 0,.dy pb kb,L'] st')) x pr pb kb qs b regs bs os L' ⟨s.i,s.first,s.r,s.bufs,s.l++[(i,pl)]⟩)→K L' G5):appL G' 2 L 1 [.i i,.i pl] K:=by
 subst hG
 obtain⟨l1,l2,l3,l4,l5,l6⟩:=hm.lt
 have hbG:=hm.bG
 refine StD.push2 (x:=[.i i,.i pl]) hm.ev.push_end (by omega) (by simp; omega) hll rfl rfl fun L' G5 hs5 hf5 hl5 hr5=>?_
 have keep:∀ {q:Nat},q < b→G5[q]?=G[q]?:=fun {q} hq=>by
  rw[hf5 q (by simp; omega) (fun e=>by have:=(hm.ev.row e).1; omega),oldP (by omega)]
 refine k L' G5 hs5.cells (fun q hq=>keep hq) fun st'=>?_
 have hx5l:x < G5.length:=by simp at hl5; omega
 have ne:∀ {q:Nat} {ob:LObj},q≠x→(G5.set x ob)[q]?=G5[q]?:=fun hq=>List.getElem?_set_ne (Ne.symm hq)
 refine⟨⟨st',List.getElem?_set_self hx5l⟩,?_,?_,fun j hj=>?_,hm.bl,hm.lt,hm.qlt,hm.nd,?_,by rw[List.length_set]; simp at hl5; omega⟩
 ·obtain⟨st,h⟩:=hm.rr; exact⟨st,by rw[ne (Ne.symm l4),keep l2]; exact h⟩
 ·obtain⟨st,h⟩:=hm.bb; exact⟨st,by rw[ne (Ne.symm l5),keep l3]; exact h⟩
 ·obtain⟨st,h⟩:=hm.row j hj
  have hq:=hm.qlt (qs.getD j 0) (by simp[List.getD_eq_getElem?_getD,hj])
  exact⟨st,by rw[ne hq.2.1,keep hq.1]; exact h⟩
 ·show StD b _ L' 2 (s.l++[(i,pl)]).length (evC (s.l++[(i,pl)]))
  rw[ztz,List.length_append]
  exact hs5.set_lt l1
theorem MsH.ctl {G:z03} {x pr pb kb:Nat} {qs:List Nat} {b:Nat} {regs:Int} {bs:List Bf} {os:List Lo} {L:LV} {s:Ms} (h:MsH G x pr pb kb qs b regs bs os L s) {i:Nat} {f:Bool}:MsH G x pr pb kb qs b regs bs os L ⟨i,f,s.r,s.bufs,s.l⟩:=⟨h.xc,h.rr,h.bb,h.row,h.bl,h.lt,h.qlt,h.nd,h.ev,h.bG⟩
theorem zlu {G:z03}:∀ (qs:List Nat) (B:List (List UInt64)),B.length=qs.length→(∀ j,j < qs.length→∃ st,G[qs.getD j 0]?=some (.dyn ((B.getD j []).map .u) (B.getD j []).length 1 0 st))→bors G (qs.map fun q=>.dy q 0) (B.map LU)
 | [],B,h,_=>by
  have:B=[]:=List.eq_nil_of_length_eq_zero h
  subst this; simp
 | q::qs,[],h,_=>by simp at h
 | q::qs,x::B,h,hr=>by
  obtain⟨st,h0⟩:=hr 0 (by simp)
  simp only[List.getD_cons_zero] at h0
  rw[List.map_cons,List.map_cons]
  refine⟨_,_,rfl,⟨_,_,_,st,rfl,h0,by simp⟩,zlu qs B (by simpa using h) fun j hj=>?_⟩
  have:=hr (j+1) (by simp; omega)
  simpa only[List.getD_cons_succ] using this
theorem repUs (n:Nat):repL [.u 0] n=(List.replicate n (0:UInt64)).map LV.u:=by
 induction n with
 | zero=>rfl
 | succ n ih=>rw[repL,ih,List.replicate_succ]; rfl
theorem copy_row (x:List UInt64) (n:Nat) (h:x.length≤n):z0w ((List.replicate n (0:UInt64)).map LV.u) 0 ((x.map LV.u).take (min x.length n))=(x++List.replicate (n - x.length) 0).map LV.u:=by
 rw[Nat.min_eq_left h,List.take_of_length_le (by simp),zix,List.map_append]
 congr 1
 simp
theorem zme {regs:Int} {bs:List Bf} {os:List Lo} {X:List (List UInt64)} {es:List Int} {s':Ms} {T:Nat} (hc:(chkR regs bs os).2=0) (hb:bal kdL 0 os) (hst:stR [] 0 os≤16777216) (hX:zhj bs X=true) (hb1:1≤bs.length) (hes:z98 0 [] (List.replicate os.length 0) os=es)
  (hE:∀ i o,os[i]?=some o→o.kind=17→0≤es.getD i 0∧∃ p,os[(es.getD i 0).toNat]?=some p∧p.kind=16) (hT:T≤800000000) (hrun:runZ os es T (z1d regs bs X)=some s') (hend:s'.i=os.length) :
  FnV Tryz.prog 29 [.agg (lpV regs bs os),LN X] (.tup [LN s'.bufs,.lst (evC s'.l) s'.l.length 2,.i 0]):=by
 obtain⟨hr0,hr64,hbl,hol,hbsz,hfs⟩:=zdh hc
 have hXl:X.length=bs.length∧∀ i,i < bs.length→((X.getD i []).length:Int)=if (gbf bs i).kind=3 then 0 else (gbf bs i).size:=by
  unfold zhj at hX; exact of_decide_eq_true hX
 obtain⟨hXl,hXr⟩:=hXl
 obtain⟨r,rfl⟩:=Int.eq_ofNat_of_zero_le hr0
 have hev:∀ l:List (Int×Int),dats (evC l)=true:=fun l=>zc0 (f:=fun e:Int×Int=>[.i e.1,.i e.2]) (fun _=>rfl) l
 refine FnV.mkS (by simp[LV.dat,dats,hev,LN,zwc]) (z01 r_ref12_Run k_ref12_Run (by simp) ?_)
 have hdp:dats (lpV r bs os)=true:=zpg _ _ _
 have hst':¬ (16777216:Int) < stR [] 0 os:=by omega
 simp[zc9,lpV]
 refine z02 (z82 r bs os) (bors_self _ (by simp[dats,LV.dat,lpV,z0o,z0s])) ?_
 simp[hc]
 refine z02 (zi5 hc hb) (bors_self _ (by simp[dats,LV.dat,lpV,z0o,z0s])) ?_
 simp[hst']
 refine z02 (zj9 r bs os X (by omega)) (bors_self _ (by simp[dats,LV.dat,lpV,z0o,z0s,zwc])) ?_
 simp[hX]
 refine⟨by omega,?_⟩
 refine z0m (fun ρ D G N=>∃ (i:Nat) (qs:List Nat) (v:LV),D=[]∧N+i=bs.length∧qs.length=i∧lk ρ 1=LN X∧lk ρ 2=.ptr 0 0∧lk ρ 9=.ptr 2 0∧lk ρ 10=.i i∧G[0]?=some (.cells (lpV r bs os) 0)∧(∃ st,G[1]?=some (.dyn ((List.replicate r (0:UInt64)).map .u) r 1 0 st))∧(∃ st,G[2]?=some (.cells [.i r,.lst (bfC bs) bs.length 3,.lst (loC os) os.length 8,.dy 1 0,v,.nilSl] st))∧3≤G.length ∧
   ((i=0∧v=.nilSl)∨∃ pb st,v=.dy pb (i - 1)∧3≤pb∧pb ∉ qs∧1≤i∧G[pb]?=some (.dyn (qs.map fun q=>.dy q 0) i 1 (i - 1) st))∧(∀ q∈qs,3≤q)∧qs.Nodup∧∀ j,j < i→∃ st,G[qs.getD j 0]?=some (.dyn ((rowS (gbf bs j) (X.getD j [])).map .u) (rowS (gbf bs j) (X.getD j [])).length 1 0 st)) (N:=bs.length)
  ⟨0,[],.nilSl,rfl,by omega,rfl,by simp,by simp,by simp,by simp,by simp[lpV],⟨0,by simp[repUs]⟩,⟨0,by simp⟩,by simp,.inl ⟨rfl,rfl⟩,by simp,by simp,fun j h=>by omega⟩ ?_
 rintro N ρ D G ⟨i,qs,v,rfl,hN,hql,h1,h2,h9,h10,hG0,⟨s1,hG1⟩,⟨s2,hG2⟩,hG3,hv,hq3,hnd,hrow⟩ Nx hNx
 have h1':lk ρ 1=.lst (X.map LU) X.length 1:=h1
 by_cases g:i < bs.length
 ·have q0:=zbi (z33 g)
  have gx:i < X.length:=by omega
  obtain⟨x,hx⟩:∃ x,X.getD i []=x:=⟨_,rfl⟩
  have hx2:X[i]=x:=by rw[←hx]; simp[gx]
  have hm:gbf bs i∈bs:=List.mem_of_getElem? (z33 g)
  obtain⟨b1,b2⟩:=hbsz _ hm
  have hxr:=hXr i g
  rw[hx] at hxr
  obtain⟨n,hn⟩:=Int.eq_ofNat_of_zero_le (show 0≤(gbf bs i).size by omega)
  have hxn:x.length≤n:=by split at hxr <;> omega
  have hrs:rowS (gbf bs i) (X.getD i [])=x++List.replicate (n - x.length) 0:=by unfold rowS; rw[hx,hn]; rfl
  have hrsl:(x++List.replicate (n - x.length) (0:UInt64)).length=n:=by simp; omega
  have l0:0 < G.length:=by omega
  have l2:2 < G.length:=by omega
  have p0:∀ y:List LObj,(G++y)[0]?=_:=fun y=>(oldP l0).trans hG0
  have p2:∀ y:List LObj,(G++y)[2]?=_:=fun y=>(oldP l2).trans hG2
  have hcp:=copy_row x n hxn
  simp only[List.map_replicate] at hcp
  have hnn:n≤65536:=by omega
  simp[h1',h2,h9,h10,hG0,lpV,g,gx,z05 q0,hn,hx2,repUs,hcp,↓p2]
  refine⟨by omega,?_⟩
  have hGn:∀ q∈qs,q < G.length:=fun q hq=>by
   obtain⟨j,hj,rfl⟩:=List.mem_iff_getElem.1 hq
   obtain⟨st,h⟩:=hrow j (by omega)
   have h:=(List.getElem?_eq_some_iff.1 h).1
   simpa [List.getD_eq_getElem?_getD,hj] using h
  have hgd:∀ j,j < i→(qs++[G.length]).getD j 0=qs.getD j 0:=fun j hj=>by simp[List.getD_eq_getElem?_getD,List.getElem?_append_left (show j < qs.length by omega)]
  have hgi:(qs++[G.length]).getD i 0=G.length:=by
   rw[List.getD_eq_getElem?_getD,List.getElem?_append_right (by omega),show i - qs.length=0 by omega]; rfl
  have hnd2:(qs++[G.length]).Nodup:=by
   rw[List.nodup_append]
   exact⟨hnd,by simp,fun a ha b hb=>by simp at hb; rw[hb]; have:=hGn a ha; omega⟩
  rcases hv with ⟨rfl,rfl⟩ | ⟨pb,st3,rfl,hp3,hpq,hi1,hpb⟩
  ·have hq0:qs=[]:=List.eq_nil_of_length_eq_zero hql
   subst hq0
   simp[h9,↓p2,h10]
   refine hNx _ _ _ ⟨N - 1,by omega,1,[G.length],.dy (G.length+2) 0,rfl,by omega,rfl,by simp[h1'],by simp[h2],by simp[h9],by simp,?_,⟨s1,?_⟩,⟨s2+1,?_⟩,by simp,.inr ⟨G.length+2,0,rfl,by omega,by simp,by omega,?_⟩,by simp; omega,by simp,fun j hj=>⟨1,?_⟩⟩
   ·rw[List.getElem?_set_ne (by omega)]; exact p0 _
   ·rw[List.getElem?_set_ne (by omega),oldP (by omega)]; exact hG1
   ·exact List.getElem?_set_self (by simp)
   ·rw[List.getElem?_set_ne (by omega),List.getElem?_append_right (by omega),show G.length+2 - G.length=2 by omega]; rfl
   ·have hj0:j=0:=by omega
    subst hj0
    rw[hrs]
    rw[List.getElem?_set_ne (by simp; omega)]
    simp only[List.getD_cons_zero]
    rw[List.getElem?_append_right (by omega),Nat.sub_self,hrsl]
    simp
  ·have lp:pb < G.length:=(List.getElem?_eq_some_iff.1 hpb).1
   have pp:∀ y:List LObj,(G++y)[pb]?=_:=fun y=>(oldP lp).trans hpb
   have s2':∀ (y:List LObj) (ob:LObj),((G++y).set pb ob)[2]?=_:=fun y ob=>(List.getElem?_set_ne (by omega)).trans (p2 y)
   simp[h9,↓pp,↓s2',h10]
   repeat (refine⟨by omega,?_⟩)
   refine hNx _ _ _ ⟨N - 1,by omega,i+1,qs++[G.length],.dy pb i,rfl,by omega,by simp[hql],by simp[h1'],by simp[h2],by simp[h9],by simp,?_,⟨s1,?_⟩,⟨s2+1,?_⟩,by simp; omega,.inr ⟨pb,st3+1,rfl,hp3,by simp[hpq]; omega,by omega,?_⟩,fun q hq=>?_,hnd2,fun j hj=>?_⟩
   ·rw[List.getElem?_set_ne (by omega),List.getElem?_set_ne (by omega)]; exact p0 _
   ·rw[List.getElem?_set_ne (by omega),List.getElem?_set_ne (by omega),oldP (by omega)]; exact hG1
   ·rw[List.getElem?_set_self (by simp; omega),show i - 1+1=i by omega]
   ·rw[List.getElem?_set_ne (by omega),List.getElem?_set_self (by simp; omega),show i - 1+1=i by omega]
    simp
   ·rcases List.mem_append.1 hq with hq | hq
    ·exact hq3 q hq
    ·simp at hq; omega
   ·by_cases e:j=i
    ·subst e
     rw[hgi,hrs,hrsl]
     refine⟨1,?_⟩
     rw[List.getElem?_set_ne (by omega),List.getElem?_set_ne (by omega),List.getElem?_append_right (by omega),Nat.sub_self]
     simp
    ·obtain⟨st,h⟩:=hrow j (by omega)
     refine⟨st,?_⟩
     have hmq:qs.getD j 0∈qs:=by simp[List.getD_eq_getElem?_getD,show j < qs.length by omega]
     have:=hq3 _ hmq
     rw[hgd j (by omega),List.getElem?_set_ne (by omega),List.getElem?_set_ne (fun e=>hpq (by rw[e]; exact hmq)),oldP (hGn _ hmq)]
     exact h
 have hi:i=bs.length:=by omega
 subst hi
 rcases hv with ⟨e,_⟩ | ⟨pb,st3,rfl,hp3,hpq,hi1,hpb⟩
 ·omega
 have ge:¬ bs.length < bs.length:=by omega
 have hM0:MsH G 2 1 pb (bs.length - 1) qs G.length r bs os .nilSl (z1d r bs X):=by
  have l1:=(List.getElem?_eq_some_iff.1 hG1).1
  have l2:=(List.getElem?_eq_some_iff.1 hG2).1
  have lp:=(List.getElem?_eq_some_iff.1 hpb).1
  refine⟨⟨s2,hG2⟩,⟨s1,by simpa [z1d] using hG1⟩,⟨st3,by rw[hql]; exact hpb⟩,fun j hj=>?_,by simp[z1d,bufS_len,hql],⟨l2,l1,lp,by omega,by omega,by omega⟩,fun q hq=>?_,hnd,StD.nil,Nat.le_refl _⟩
  ·obtain⟨st,h⟩:=hrow j (by omega)
   refine⟨st,?_⟩
   have hbj:(z1d r bs X).bufs.getD j []=rowS (gbf bs j) (X.getD j []):=by simp[z1d,bufS,List.getD_eq_getElem?_getD,show j < bs.length by omega]
   rw[hbj]; exact h
  ·obtain⟨j,hj,rfl⟩:=List.mem_iff_getElem.1 hq
   obtain⟨st,h⟩:=hrow j (by omega)
   have h:=(List.getElem?_eq_some_iff.1 h).1
   have:=hq3 _ hq
   exact⟨by simpa [List.getD_eq_getElem?_getD,hj] using h,by omega,by omega,fun e=>hpq (by rw[←e]; exact hq)⟩
 have hrl0:∀ x∈(z1d r bs X).bufs,x.length≤65536:=fun x hx=>by
  simp only[z1d,bufS,List.mem_map,List.mem_range] at hx
  obtain⟨j,hj,rfl⟩:=hx
  have hm:gbf bs j∈bs:=List.mem_of_getElem? (z33 hj)
  obtain⟨b1,b2⟩:=hbsz _ hm
  have:=hXr j hj
  unfold rowS
  rw[List.length_append,List.length_replicate]
  split at this <;> omega
 simp[h1',h2,h9,h10,hXl,hG0,lpV]
 refine z1p (zk1 hc hb) (by simp[dats,LV.dat,z0o,z0s]) ?_
 rw[hes]
 have hbl2:qs.length=bs.length:=hql
 generalize hbb:G.length=b at *
 simp
 refine z0m (fun ρ D G' N=>∃ (s:Ms) (L:LV),D=[]∧runZ os es N s=some s'∧lk ρ 2=.ptr 0 0∧lk ρ 9=.ptr 2 0∧lk ρ 12=.lst (es.map .i) os.length 1∧lk ρ 13=.bool s.first∧lk ρ 14=.i s.i∧G'[0]?=some (.cells (lpV r bs os) 0)∧MsH G' 2 1 pb (bs.length - 1) qs b r bs os L s∧s.l.length+N≤T∧s.i≤os.length∧s.r.length=r∧∀ x∈s.bufs,x.length≤65536) (N:=T)
  ⟨z1d r bs X,.nilSl,rfl,hrun,by simp[h2],by simp[h9],by simp,by simp[z1d],by simp[z1d],hG0,hM0,by simp[z1d],by simp[z1d],by simp[z1d],hrl0⟩ ?_
 clear hrun hM0 h1 h1' h2 h9 h10 hG0 hG1 hG2 hpb hNx Nx hrl0
 rintro N ρ D G4 ⟨s,L,rfl,hrun,h2,h9,h12,h13,h14,hG0,hM,hT2,hsi,hsr,hsl⟩ Nx hNx
 by_cases g:s.i < os.length
 case neg =>
  have hr2:=zpy (os:=os) (es:=es) (s:=s) (List.getElem?_eq_none (by omega)) N
  rw[hr2] at hrun
  have hss:s=s':=Option.some.inj hrun
  subst hss
  obtain⟨t1,hx1⟩:=hM.xc
  obtain⟨t2,hb1⟩:=hM.bb
  simp[h2,h9,h14,hG0,lpV,g,hx1]
  intro c a hs ha
  have hbl3:s.bufs.length=bs.length:=by rw[hM.bl,hql]
  have h:=tup3_ok hs hb1 (zlu qs s.bufs hM.bl hM.row) hM.ev.bor (by simp) ha
  rw[←hM.bl] at h
  exact h
 have ho:=zmq g
 have ho8:=zfc ho
 have hlt:=zs9 g
 have hfo:=hfs _ (List.mem_of_getElem? ho)
 generalize glo os s.i=o at *
 cases N with
 | zero =>
  have hss:s=s':=Option.some.inj hrun
  subst hss
  omega
 | succ N =>
 have hC:o.f=[.i o.kind,.i o.d,.i o.e,.i o.a,.i o.b,.i o.c,.i o.buf,.u o.imm]:=rfl
 change (match z6c os es s with | none=>none | some s'=>runZ os es N s')=some s' at hrun
 have l0:0 < G4.length:=by have:=hM.bG; omega
 have p0:∀ y:List LObj,(G4++y)[0]?=_:=fun y=>(oldP l0).trans hG0
 have hzo:(G4++[LObj.cells o.f 1])[G4.length]?=some (.cells o.f 1):=List.getElem?_concat_length
 have hm1:MsH (G4++[LObj.cells o.f 1]) 2 1 pb (bs.length - 1) qs b r bs os L s:=hM.keep (fun q hq=>oldP hq) (by simp)
 have hp1:=p0 [.cells o.f 1]
 have hzb:b≤G4.length:=hM.bG
 have z0:∀ (y:List LObj) (h:0 < (G4++y).length),(G4++y)[0]=.cells (lpV r bs os) 0:=fun y h=>Option.some.inj ((List.getElem?_eq_getElem h).symm.trans (p0 y))
 have p1:∃ st,∀ y:List LObj,(G4++y)[1]?=some (.dyn (s.r.map .u) s.r.length 1 0 st):=by
  obtain⟨st,h⟩:=hM.rr; exact⟨st,fun y=>(oldP (List.getElem?_eq_some_iff.1 h).1).trans h⟩
 have p2:∃ st,∀ y:List LObj,(G4++y)[2]?=some (.cells [.i r,.lst (bfC bs) bs.length 3,.lst (loC os) os.length 8,.dy 1 0,.dy pb (bs.length - 1),L] st):=by
  obtain⟨st,h⟩:=hM.xc; exact⟨st,fun y=>(oldP (List.getElem?_eq_some_iff.1 h).1).trans h⟩
 obtain⟨t1,p1⟩:=p1
 obtain⟨t2,p2⟩:=p2
 obtain⟨rd,re,ra,rb,rc,rm⟩:=zh5 hfo
 by_cases k16:o.kind=16
 ·have hst2:z6c os es s=some ⟨s.i+1,true,if s.first then putR s.r o.d 0 else s.r,s.bufs,s.l++[((s.i:Int),(-1:Int))]⟩:=by
   unfold z6c
   rw[ho]
   dsimp only
   rw[if_pos k16]
  rw[hst2] at hrun
  dsimp only at hrun
  obtain⟨d0,dr⟩:=(za0 hfo).2.2 k16
  obtain⟨dn,hdn⟩:=Int.eq_ofNat_of_zero_le d0
  have hdr:dn < s.r.length:=by omega
  have hltb:=hM.lt
  have fin:∀ (G7:z03) (s2:Ms),MsH G7 2 1 pb (bs.length - 1) qs b r bs os L s2→G7[0]?=some (.cells (lpV r bs os) 0)→s2.l=s.l→s2.i=s.i→(⟨s2.i+1,true,s2.r,s2.bufs,s2.l++[((s.i:Int),(-1:Int))]⟩:Ms)=⟨s.i+1,true,if s.first then putR s.r o.d 0 else s.r,s.bufs,s.l++[((s.i:Int),(-1:Int))]⟩→True:=fun _ _ _ _ _ _ _=>trivial
  cases hf:s.first with
  | true =>
   rw[hf] at hrun h13
   rw[if_pos rfl] at hrun
   obtain⟨t2,hr1⟩:=hm1.rr
   obtain⟨t1,hx1⟩:=hm1.xc
   have e1:z0w (s.r.map LV.u) dn [.u 0]=(putR s.r o.d 0).map LV.u:=by
    rw[zrj (by simpa using hdr),putR,if_pos d0,hdn,List.map_set]; rfl
   have hm2:=hm1.putr (i:=o.d) (v:=0) (st:=t2+1)
   rw[hC] at hx1 hr1 hm1 hm2 hp1 hzo
   have h20:∀ ob:LObj,((G4++[LObj.cells [.i o.kind,.i o.d,.i o.e,.i o.a,.i o.b,.i o.c,.i o.buf,.u o.imm] 1]).set 1 ob)[0]?=some (.cells (lpV r bs os) 0):=fun ob=>(List.getElem?_set_ne (by omega)).trans hp1
   rw[k16,hdn] at hx1 hr1 hzo h20 hm2
   simp[h2,h9,h13,h14,hG0,lpV,g,ho8,hlt,hC,k16,hdn,hzo,hx1,hr1,hdr,e1]
   refine⟨by omega,MsH.push_ev rfl hm2 (by show s.l.length≤_; omega) fun L' G5 hcl hf5 hm5=>?_⟩
   obtain⟨t3,hx3⟩:=hm2.xc
   have hx5:G5[2]?=_:=(hf5 2 (by omega)).trans hx3
   simp[-LV.cells,hcl,hx5,h14]
   have h05:G5[0]?=some (.cells (lpV r bs os) 0):=(hf5 0 (by omega)).trans (h20 _)
   rw[←hdn] at hm5
   refine⟨by omega,hNx _ _ _ ⟨N,by omega,_,L',rfl,hrun,by simp[h2],by simp[h9],by simp[h12],by simp,by simp,?_,(hm5 (t3+1)).ctl,by simp; omega,by show s.i+1≤_; omega,by show (putR s.r o.d 0).length=_; rw[zct]; exact hsr,hsl⟩⟩
   rw[List.getElem?_set_ne (by omega)]; exact h05
  | false =>
   rw[hf] at hrun h13
   rw[if_neg (by decide)] at hrun
   obtain⟨t1,hx1⟩:=hm1.xc
   rw[hC] at hx1 hm1 hp1 hzo
   rw[k16] at hx1 hzo hm1 hp1
   simp[h2,h9,h13,h14,hG0,lpV,g,ho8,hlt,hC,k16,hzo,hx1]
   refine MsH.push_ev (by rw[List.append_assoc]; rfl) hm1 (by omega) fun L' G5 hcl hf5 hm5=>?_
   have hx5:G5[2]?=_:=(hf5 2 (by omega)).trans hx1
   simp[-LV.cells,hcl,hx5,h14]
   have h05:G5[0]?=some (.cells (lpV r bs os) 0):=(hf5 0 (by omega)).trans hp1
   refine⟨by omega,hNx _ _ _ ⟨N,by omega,_,L',rfl,hrun,by simp[h2],by simp[h9],by simp[h12],by simp,by simp,?_,(hm5 (t1+1)).ctl,by simp; omega,by show s.i+1≤_; omega,hsr,hsl⟩⟩
   rw[List.getElem?_set_ne (by omega)]; exact h05
 by_cases k17:o.kind=17
 ·obtain⟨c0,p,hp,hpk⟩:=hE s.i o ho k17
  obtain⟨kn,hkn⟩:=Int.eq_ofNat_of_zero_le c0
  have hsil:s.i < es.length:=by rw[←hes,endsR_len]; simpa using g
  have hesi:(es.map LV.i)[s.i]?=some (.i (kn:Int)):=by
   rw[←hkn]; simp[List.getD_eq_getElem?_getD,hsil]
  rw[hkn] at hp
  rw[Int.toNat_natCast] at hp
  have hpf:=hfs _ (List.mem_of_getElem? hp)
  have hp8:=zfc hp
  have hkl:kn < os.length:=(List.getElem?_eq_some_iff.1 hp).1
  have hplt:=zs9 hkl
  obtain⟨d0,dr⟩:=(za0 hpf).2.2 hpk
  obtain⟨dn,hdn⟩:=Int.eq_ofNat_of_zero_le d0
  have hdr:dn < s.r.length:=by omega
  have hst2:z6c os es s=if atR s.r p.d+1 < p.imm then some ⟨kn,false,putR s.r p.d (atR s.r p.d+1),s.bufs,s.l⟩ else some ⟨s.i+1,s.first,s.r,s.bufs,s.l⟩:=by
   unfold z6c
   rw[ho]
   dsimp only
   rw[if_neg k16,if_pos k17,hkn,Int.toNat_natCast,hp]
  have hat:atR s.r p.d=s.r.getD dn 0:=by unfold atR; rw[if_neg (by omega),hdn]; rfl
  have hxv:s.r[dn]=atR s.r p.d:=by rw[hat]; simp[List.getD_eq_getElem?_getD,hdr]
  generalize atR s.r p.d=xv at *
  rw[hst2] at hrun
  have hltb:=hM.lt
  have hC2:p.f=[.i p.kind,.i p.d,.i p.e,.i p.a,.i p.b,.i p.c,.i p.buf,.u p.imm]:=rfl
  have l04:0 < G4.length:=l0
  have hm3:MsH (G4++[LObj.cells o.f 1,LObj.cells p.f 1]) 2 1 pb (bs.length - 1) qs b r bs os L s:=hM.keep (fun q hq=>oldP hq) (by simp)
  have hp3:=p0 [.cells o.f 1,.cells p.f 1]
  have hz1:(G4++[LObj.cells o.f 1,LObj.cells p.f 1])[G4.length+1]?=some (.cells p.f 1):=by
   rw[List.getElem?_append_right (by omega),show G4.length+1 - G4.length=1 by omega]; rfl
  have e1:z0w (s.r.map LV.u) dn [.u (xv+1)]=(putR s.r p.d (xv+1)).map LV.u:=by
   rw[zrj (by simpa using hdr),putR,if_pos d0,hdn,List.map_set]; rfl
  have hm4:=hm3.putr (i:=p.d) (v:=xv+1) (st:=t1+1)
  rw[hC,hC2,k17,hdn] at hm3 hp3 hm4
  rw[hC2,hC,k17,hdn] at hz1
  rw[hC,k17] at hzo
  rw[hdn] at e1 hrun
  have hle2:p.imm≤xv+1↔¬ xv+1 < p.imm:=by simp
  by_cases hlt2:xv+1 < p.imm
  ·rw[if_pos hlt2] at hrun
   simp[h2,h9,h12,h13,h14,hG0,lpV,g,ho8,hlt,hC,k17,hzo,↓p0,↓p1,↓p2,z0,z05 hesi,hkl,hp8,hplt,hC2,hz1,hdn,hdr,hxv,hle2,hlt2,e1,z2h]
   repeat (refine⟨by omega,?_⟩)
   refine hNx _ _ _ ⟨N,by omega,_,L,rfl,hrun,by simp[h2],by simp[h9],by simp[h12],by simp,by simp,?_,?_,by show s.l.length+N≤T; omega,by show kn≤_; omega,by show (putR s.r (dn:Int) (xv+1)).length=_; rw[zct]; exact hsr,hsl⟩
   ·rw[List.getElem?_set_ne (by omega)]; exact hp3
   ·exact hm4.ctl
  ·rw[if_neg hlt2] at hrun
   simp[h2,h9,h12,h13,h14,hG0,lpV,g,ho8,hlt,hC,k17,hzo,↓p0,↓p1,↓p2,z0,z05 hesi,hkl,hp8,hplt,hC2,hz1,hdn,hdr,hxv,hle2,hlt2,e1,z2h]
   repeat (refine⟨by omega,?_⟩)
   exact hNx _ _ _ ⟨N,by omega,_,L,rfl,hrun,by simp[h2],by simp[h9],by simp[h12],by simp[h13],by simp,hp3,hm3.ctl,by show s.l.length+N≤T; omega,by show s.i+1≤_; omega,hsr,hsl⟩
 have hst2:z6c os es s=doR o s:=by
  unfold z6c
  rw[ho]
  dsimp only
  rw[if_neg k16,if_neg k17]
 rw[hst2] at hrun
 simp[h2,h9,h14,hG0,lpV,g,ho8,hlt,hC,k16,k17]
 rw[hC] at hm1 hp1
 cases hd:doR o s with
 | none=>rw[hd] at hrun; cases hrun
 | some s1 =>
 rw[hd] at hrun
 dsimp only at hrun
 have hsl1:=doR_len hd
 refine do_any hm1 ho hfo k16 k17 (by rw[hsr]) (by rw[hql]) (by omega) hsl (fun e=>by rw[hd] at e; cases e) fun s2 G6 L2 e hm2 hfr2=>?_
 rw[hd] at e
 obtain rfl:=Option.some.inj e
 have h06:G6[0]?=some (.cells (lpV r bs os) 0):=by
  have hlt2:=hM.lt
  rw[hfr2 0 (by omega) (by omega) (by omega) (fun e=>by have:=hq3 0 e; omega)]; exact hp1
 have hsl2:∀ x∈s1.bufs,x.length≤65536:=fun x hx=>by
  have h1:x.length∈s1.bufs.map List.length:=List.mem_map_of_mem hx
  rw[hsl1.b] at h1
  obtain⟨y,hy,e⟩:=List.mem_map.1 h1
  rw[←e]; exact hsl y hy
 have e1:=hsl1.i
 have e2:=hsl1.l
 simp[h14]
 refine⟨by omega,hNx _ _ _ ⟨N,by omega,s1,L2,rfl,hrun,by simp[h2],by simp[h9],by simp[h12],by simp[h13,hsl1.f],by simp[e1],h06,hm2,by omega,by omega,by rw[hsl1.r]; exact hsr,hsl2⟩⟩
end Go.Proofs.YtodjkjimaheggaaGreat
