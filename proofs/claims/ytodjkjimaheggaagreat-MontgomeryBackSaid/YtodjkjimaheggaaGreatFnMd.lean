/- Limb programs, by the document: one operation done. -/
import Derived.Test.YtodjkjimaheggaaGreatFnMc
namespace Go.Proofs.YtodjkjimaheggaaGreat
open Go.Sv
set_option linter.unusedSimpArgs false
set_option maxRecDepth 10000
def z5q:LC:=(.seq (.ops [.z 4 (.move (.c (.u 0)))]) (.seq (.seq (.ops [.m 5 1,.z 6 (.bin .lss true 3 (.t 5) (.c (.i 0)))]) (.cond (.t 6) (.seq (.ops [.z 4 (.move (.c (.u 0)))]) .ret) .skip)) (.seq (.ops [.m 7 0,.z 8 (.nilChk (.t 7)),.f 9 3 8,.l 10 9,.m 11 1,.z 12 (.ixAddr 1 (.t 10) (.t 11)),.l 13 12,.m 4 13]) .ret)))
theorem r_ref12_run_at:z0f Tryz.prog 148=some ⟨14,z5q.r,[.tmp 4]⟩:=by kernel_rfl
theorem k_ref12_run_at:z5q.ok=true:=by kernel_rfl
def z7x:LC:=(.seq (.ops [.z 4 (.move (.c (.bool false)))]) (.seq (.ops [.m 17 0,.z 18 (.nilChk (.t 17)),.f 19 0 18,.f 20 2 19,.l 21 20,.m 22 1,.z 23 (.ixAddr 8 (.t 21) (.t 22)),.z 24 (.loadN 8 (.t 23)),.z 5 (.alloc [(.i 0),(.i 0),(.i 0),(.i 0),(.i 0),(.i 0),(.i 0),(.u 0)]),⟨none,none,.store 8 (.t 5) (.t 24)⟩]) (.seq (.draw [(.m 25 0,[]),(.f 26 3 5,[]),(.l 27 26,[]),(.m 29 0,[]),(.f 30 4 5,[]),(.l 31 30,[]),(.m 33 0,[]),(.f 34 5 5,[]),(.l 35 34,[]),(.z 28 (.callV (.c (.fn (.func 148) [] [])) [.t 25,.t 27]),[(.l 35 34,false),(.l 31 30,false)]),(.z 32 (.callV (.c (.fn (.func 148) [] [])) [.t 29,.t 31]),[(.l 35 34,false)]),(.z 36 (.callV (.c (.fn (.func 148) [] [])) [.t 33,.t 35]),[]),(.z 37 (.bin .rem true 23 (.t 36) (.c (.u 2))),[]),(.z 38 (.bin .eql true 23 (.t 37) (.c (.u 1))),[]),(.m 6 28,[]),(.m 7 32,[]),(.m 8 38,[])]) (.seq (.ops [.z 9 (.move (.c (.i (-1))))]) (.seq (.ops [.z 10 (.move (.c (.u 0))),.z 11 (.move (.c (.u 0)))]) (.seq (.seq (.ops [.f 39 0 5,.l 40 39]) (.block 0 (.seq (.ops [.z 42 (.bin .eql true 3 (.t 40) (.c (.i 1))),.m 41 42]) (.cond (.t 41) (.ops [.f 43 7 5,.l 44 43,.m 10 44]) (.seq (.ops [.z 46 (.bin .eql true 3 (.t 40) (.c (.i 2))),.m 45 46]) (.cond (.t 45) (.ops [.m 47 6,.m 10 47]) (.seq (.ops [.z 49 (.bin .eql true 3 (.t 40) (.c (.i 3))),.m 48 49]) (.cond (.t 48) (.ops [.m 50 6,.m 51 7,.z 52 (.bin .add false 23 (.t 50) (.t 51)),.m 10 52]) (.seq (.ops [.z 54 (.bin .eql true 3 (.t 40) (.c (.i 4))),.m 53 54]) (.cond (.t 53) (.ops [.m 55 6,.m 56 7,.z 57 (.bin .sub false 23 (.t 55) (.t 56)),.m 10 57]) (.seq (.ops [.z 59 (.bin .eql true 3 (.t 40) (.c (.i 5))),.m 58 59]) (.cond (.t 58) (.ops [.m 60 6,.m 61 7,.z 62 (.bin .and false 23 (.t 60) (.t 61)),.m 10 62]) (.seq (.ops [.z 64 (.bin .eql true 3 (.t 40) (.c (.i 6))),.m 63 64]) (.cond (.t 63) (.ops [.m 65 6,.m 66 7,.z 67 (.bin .or false 23 (.t 65) (.t 66)),.m 10 67]) (.seq (.ops [.z 69 (.bin .eql true 3 (.t 40) (.c (.i 7))),.m 68 69]) (.cond (.t 68) (.ops [.m 70 6,.m 71 7,.z 72 (.bin .xor false 23 (.t 70) (.t 71)),.m 10 72]) (.seq (.ops [.z 74 (.bin .eql true 3 (.t 40) (.c (.i 8))),.m 73 74]) (.cond (.t 73) (.ops [.m 75 6,.f 76 7 5,.l 77 76,.z 78 (.bin .shl false 23 (.t 75) (.t 77)),.m 10 78]) (.seq (.ops [.z 80 (.bin .eql true 3 (.t 40) (.c (.i 9))),.m 79 80]) (.cond (.t 79) (.ops [.m 81 6,.f 82 7 5,.l 83 82,.z 84 (.bin .shr false 23 (.t 81) (.t 83)),.m 10 84]) (.seq (.ops [.z 86 (.bin .eql true 3 (.t 40) (.c (.i 10))),.m 85 86]) (.cond (.t 85) (.ops [.m 88 6,.m 89 7,.z 90 (.callV (.c (.fn (.func 91) [] [])) [.t 88,.t 89]),.m 87 90,.z 91 (.extract 0 (.t 87)),.z 92 (.extract 1 (.t 87)),.m 10 91,.m 11 92]) (.seq (.ops [.z 94 (.bin .eql true 3 (.t 40) (.c (.i 11))),.m 93 94]) (.cond (.t 93) (.seq (.ops [.m 96 6,.m 97 7,.m 98 8,.z 99 (.callV (.c (.fn (.func 92) [] [])) [.t 96,.t 97,.t 98]),.m 95 99,.z 100 (.extract 0 (.t 95)),.z 101 (.extract 1 (.t 95)),.m 12 100,.m 13 101]) (.ops [.m 102 12,.m 103 13,.z 104 (.callV (.c (.fn (.func 149) [] [])) [.t 103]),.m 10 102,.m 11 104])) (.seq (.ops [.z 106 (.bin .eql true 3 (.t 40) (.c (.i 12))),.m 105 106]) (.cond (.t 105) (.seq (.ops [.m 108 6,.m 109 7,.m 110 8,.z 111 (.callV (.c (.fn (.func 147) [] [])) [.t 108,.t 109,.t 110]),.m 107 111,.z 112 (.extract 0 (.t 107)),.z 113 (.extract 1 (.t 107)),.m 14 112,.m 15 113]) (.ops [.m 114 14,.m 115 15,.z 116 (.callV (.c (.fn (.func 149) [] [])) [.t 115]),.m 10 114,.m 11 116])) (.seq (.ops [.z 118 (.bin .eql true 3 (.t 40) (.c (.i 13))),.m 117 118]) (.cond (.t 117) (.seq (.ops [.m 119 7,.m 10 119]) (.seq (.ops [.m 120 8]) (.cond (.t 120) (.ops [.m 121 6,.m 10 121]) .skip))) (.seq (.seq (.ops [.z 123 (.bin .eql true 3 (.t 40) (.c (.i 14))),.m 122 123]) (.cond (.t 122) .skip (.ops [.z 124 (.bin .eql true 3 (.t 40) (.c (.i 15))),.m 122 124]))) (.cond (.t 122) (.seq (.ops [.f 125 7 5,.l 126 125,.m 127 6,.z 128 (.bin .add false 23 (.t 126) (.t 127)),.m 16 128]) (.seq (.seq (.draw [(.m 129 16,[]),(.m 130 0,[]),(.z 131 (.nilChk (.t 130)),[]),(.f 132 4 131,[]),(.l 133 132,[]),(.f 134 6 5,[]),(.l 135 134,[]),(.z 136 (.ixAddr 1 (.t 133) (.t 135)),[]),(.l 137 136,[]),(.z 138 (.lenSl (.t 137)),[]),(.z 139 (.cvInt .u64 (.t 138)),[]),(.z 140 (.bin .geq false 23 (.t 129) (.t 139)),[])]) (.cond (.t 140) (.seq (.ops [.z 4 (.move (.c (.bool false)))]) .ret) .skip)) (.seq (.ops [.m 141 16,.z 142 (.cvInt .i64 (.t 141)),.m 9 142]) (.seq (.ops [.f 143 0 5,.l 144 143,.z 145 (.bin .eql true 3 (.t 144) (.c (.i 15)))]) (.cond (.t 145) (.draw [(.m 146 0,[]),(.z 147 (.nilChk (.t 146)),[]),(.f 148 4 147,[]),(.l 149 148,[]),(.f 150 6 5,[]),(.l 151 150,[]),(.z 152 (.ixAddr 1 (.t 149) (.t 151)),[]),(.l 153 152,[]),(.m 154 16,[]),(.m 155 7,[]),(.z 156 (.ixAddr 1 (.t 153) (.t 154)),[]),(⟨none,none,.store 1 (.t 156) (.t 155)⟩,[])]) (.draw [(.m 157 0,[]),(.z 158 (.nilChk (.t 157)),[]),(.f 159 4 158,[]),(.l 160 159,[]),(.f 161 6 5,[]),(.l 162 161,[]),(.z 163 (.ixAddr 1 (.t 160) (.t 162)),[]),(.l 164 163,[]),(.m 165 16,[]),(.z 166 (.ixAddr 1 (.t 164) (.t 165)),[]),(.l 167 166,[]),(.m 10 167,[])])))))) .skip)))))))))))))))))))))))))))))) (.seq (.seq (.ops [.f 168 1 5,.l 169 168,.z 170 (.bin .geq true 3 (.t 169) (.c (.i 0)))]) (.cond (.t 170) (.draw [(.m 171 0,[]),(.z 172 (.nilChk (.t 171)),[]),(.f 173 3 172,[]),(.l 174 173,[]),(.f 175 1 5,[]),(.l 176 175,[]),(.m 177 10,[]),(.z 178 (.ixAddr 1 (.t 174) (.t 176)),[]),(⟨none,none,.store 1 (.t 178) (.t 177)⟩,[])]) .skip)) (.seq (.seq (.ops [.f 179 2 5,.l 180 179,.z 181 (.bin .geq true 3 (.t 180) (.c (.i 0)))]) (.cond (.t 181) (.draw [(.m 182 0,[]),(.z 183 (.nilChk (.t 182)),[]),(.f 184 3 183,[]),(.l 185 184,[]),(.f 186 2 5,[]),(.l 187 186,[]),(.m 188 11,[]),(.z 189 (.ixAddr 1 (.t 185) (.t 187)),[]),(⟨none,none,.store 1 (.t 189) (.t 188)⟩,[])]) .skip)) (.seq (.ops [.m 190 0,.m 191 0,.z 192 (.nilChk (.t 191)),.f 193 5 192,.l 194 193,.m 195 1,.m 196 9,.z 197 (.build [(.i 0),(.i 0)] [(0,1,.t 195),(1,1,.t 196)]),.z 198 (.buildSl 2 1 [(.i 0),(.i 0)] [(0,2,.t 197)]),.z 199 (.appG 2 (.t 194) (.t 198)),.z 200 (.nilChk (.t 190)),.f 201 5 200,⟨none,none,.store 1 (.t 201) (.t 199)⟩]) (.seq (.ops [.z 4 (.move (.c (.bool true)))]) .ret))))))))))
theorem r_ref12_run_do:z0f Tryz.prog 88=some ⟨202,z7x.r,[.tmp 4]⟩:=by kernel_rfl
theorem k_ref12_run_do:z7x.ok=true:=by kernel_rfl
noncomputable def zhj (bs:List Bf) (X:List (List UInt64)):Bool:=decide (X.length=bs.length∧∀ i,i < bs.length→((X.getD i []).length:Int)=if (gbf bs i).kind=3 then 0 else (gbf bs i).size)
theorem zj9 (regs:Int) (bs:List Bf) (os:List Lo) (X:List (List UInt64)) (hX:X.length≤9223372036854775807):FnS Tryz.prog 86 [.agg (lpV regs bs os),LN X] (.bool (zhj bs X)) []:=by
 refine FnS.val rfl (z01 r_ref12_Rows k_ref12_Rows (by simp) ?_)
 by_cases hl:X.length=bs.length
 case neg =>
  have hl':¬ (X.length:Int)=bs.length:=by omega
  simp[z7n,lpV,zhj,hl,hl']
 simp[z7n,lpV,hl]
 refine z0m (fun ρ D G N=>∃ i:Nat,D=[]∧G=[.cells (lpV regs bs os) 0]∧N+i=bs.length∧lk ρ 1=LN X∧lk ρ 2=.ptr 0 0∧lk ρ 5=.i i∧∀ j,j < i→((X.getD j []).length:Int)=if (gbf bs j).kind=3 then 0 else (gbf bs j).size) (N:=bs.length)
  ⟨0,rfl,by simp[lpV],by omega,by simp[hl],by simp,by simp,fun j h=>by omega⟩ ?_
 rintro N ρ D G ⟨i,rfl,rfl,hN,h1,h2,h5,hp⟩ Nx hNx
 by_cases g:i < bs.length
 case neg =>
  have:zhj bs X=true:=by
   unfold zhj
   exact decide_eq_true ⟨hl,fun j hj=>hp j (by omega)⟩
  simp[h1,h2,h5,hl,g,this]
 have q0:=zbi (z33 g)
 have q1:=zej (z33 g)
 have gx:i < X.length:=by omega
 have gx2:¬ X.length≤i:=by omega
 obtain⟨x,hx⟩:∃ x,X.getD i []=x:=⟨_,rfl⟩
 have hx2:X[i]=x:=by rw[←hx]; simp[gx]
 have bad:¬ (x.length:Int)=(if (gbf bs i).kind=3 then 0 else (gbf bs i).size)→zhj bs X=false:=fun h=>by
  unfold zhj
  exact decide_eq_false (fun q=>h (by rw[←hx]; exact q.2 i g))
 have good:(x.length:Int)=(if (gbf bs i).kind=3 then 0 else (gbf bs i).size)→∀ j,j < i+1→((X.getD j []).length:Int)=if (gbf bs j).kind=3 then 0 else (gbf bs j).size:=fun h j hj=>by
  by_cases q:j=i
  ·rw[q,hx]; exact h
  ·exact hp j (by omega)
 by_cases k3:(gbf bs i).kind=3
 ·rw[if_pos k3] at bad good
  by_cases e:(x.length:Int)=0
  ·have hx0:x=[]:=List.eq_nil_of_length_eq_zero (by omega)
   have good2:=good e
   subst hx0
   simp[h1,h2,h5,lpV,g,gx,gx2,z05 q0,z05 q1,k3,hx2]
   repeat (refine⟨by omega,?_⟩)
   exact hNx _ _ _ ⟨N - 1,by omega,i+1,rfl,by simp[lpV],by omega,by simp[h1],by simp[h2],by simp,good2⟩
  ·have e':x≠[]:=fun q=>e (by rw[q]; rfl)
   simp[h1,h2,h5,lpV,g,gx,gx2,z05 q0,z05 q1,k3,hx2,e',bad e]
 ·rw[if_neg k3] at bad good
  by_cases e:(x.length:Int)=(gbf bs i).size
  ·simp[h1,h2,h5,lpV,g,gx,gx2,z05 q0,z05 q1,k3,hx2,e]
   repeat (refine⟨by omega,?_⟩)
   exact hNx _ _ _ ⟨N - 1,by omega,i+1,rfl,by simp[lpV],by omega,by simp[h1],by simp[h2],by simp,good e⟩
  ·simp[h1,h2,h5,lpV,g,gx,gx2,z05 q0,z05 q1,k3,hx2,e,bad e]
def evC (l:List (Int×Int)):List LV:=l.flatMap fun e=>[.i e.1,.i e.2]
theorem ztz (a b:List (Int×Int)):evC (a++b)=evC a++evC b:=by simp[evC]
structure MsH (G:z03) (x pr pb kb:Nat) (qs:List Nat) (b:Nat) (regs:Int) (bs:List Bf) (os:List Lo) (L:LV) (s:Ms):Prop where
 xc:∃ st,G[x]?=some (.cells [.i regs,.lst (bfC bs) bs.length 3,.lst (loC os) os.length 8,.dy pr 0,.dy pb kb,L] st)
 rr:∃ st,G[pr]?=some (.dyn (s.r.map .u) s.r.length 1 0 st)
 bb:∃ st,G[pb]?=some (.dyn (qs.map fun q=>.dy q 0) qs.length 1 kb st)
 row:∀ j,j < qs.length→∃ st,G[qs.getD j 0]?=some (.dyn ((s.bufs.getD j []).map .u) (s.bufs.getD j []).length 1 0 st)
 bl:s.bufs.length=qs.length
 lt:x < b∧pr < b∧pb < b∧x≠pr∧x≠pb∧pr≠pb
 qlt:∀ q∈qs,q < b∧q≠x∧q≠pr∧q≠pb
 nd:qs.Nodup
 ev:StD b G L 2 s.l.length (evC s.l)
 bG:b≤G.length
section msh
variable {G G' : z03} {x pr pb kb : Nat} {qs : List Nat} {b : Nat} {regs : Int} {bs : List Bf} {os : List Lo} {L : LV} {s : Ms}
theorem MsH.keep (h:MsH G x pr pb kb qs b regs bs os L s) (hf:∀ q,q < G.length→G'[q]?=G[q]?) (hl:G.length≤G'.length):MsH G' x pr pb kb qs b regs bs os L s:=by
 have e:∀ {q:Nat} {ob:LObj},G[q]?=some ob→G'[q]?=some ob:=fun hq=>by rw[hf _ (List.getElem?_eq_some_iff.1 hq).1]; exact hq
 refine⟨?_,?_,?_,fun j hj=>?_,h.bl,h.lt,h.qlt,h.nd,h.ev.frame fun q _ hq=>hf q hq,Nat.le_trans h.bG hl⟩
 ·obtain⟨st,h⟩:=h.xc; exact⟨st,e h⟩
 ·obtain⟨st,h⟩:=h.rr; exact⟨st,e h⟩
 ·obtain⟨st,h⟩:=h.bb; exact⟨st,e h⟩
 ·obtain⟨st,h⟩:=h.row j hj; exact⟨st,e h⟩
theorem zdo {K:LV→z03→Prop} {r:Int} (h:MsH G x pr pb kb qs b regs bs os L s) (hr:r < s.r.length) (k:K (.u (atR s.r r)) G):z0k Tryz.prog (.fn 148) [.ptr x 0,.i r] G K:=by
 refine z01 r_ref12_run_at k_ref12_run_at (by simp) ?_
 obtain⟨s1,h1⟩:=h.xc
 obtain⟨s2,h2⟩:=h.rr
 unfold atR at k
 by_cases g:r < 0
 ·rw[if_pos g] at k
  simp[z5q,g]
  exact k
 ·rw[if_neg g] at k
  obtain⟨n,rfl⟩:=Int.eq_ofNat_of_zero_le (show 0≤r by omega)
  have hn:n < s.r.length:=by omega
  have q:(s.r.map LV.u)[n]?=some (.u (s.r.getD n 0)):=by simp[hn,List.getD_eq_getElem?_getD]
  rw[Int.toNat_natCast] at k
  rw[show s.r.getD n 0=s.r[n] from by simp[List.getD_eq_getElem?_getD,hn]] at k
  simp[z5q,h1,h2,hn,show ¬ ((n:Int) < 0) by omega]
  exact k
theorem MsH.putr (h:MsH G x pr pb kb qs b regs bs os L s) {i:Int} {v:UInt64} {st:Nat}:MsH (G.set pr (.dyn ((putR s.r i v).map .u) s.r.length 1 0 st)) x pr pb kb qs b regs bs os L ⟨s.i,s.first,putR s.r i v,s.bufs,s.l⟩:=by
 obtain⟨l1,l2,l3,l4,l5,l6⟩:=h.lt
 have hpl:pr < G.length:=by obtain⟨st,h⟩:=h.rr; exact (List.getElem?_eq_some_iff.1 h).1
 have hpr:(putR s.r i v).length=s.r.length:=by unfold putR; split <;> simp
 have ne:∀ {q:Nat} {ob:LObj},q≠pr→(G.set pr ob)[q]?=G[q]?:=fun hq=>List.getElem?_set_ne (Ne.symm hq)
 refine⟨?_,⟨st,?_⟩,?_,fun j hj=>?_,h.bl,h.lt,h.qlt,h.nd,h.ev.set_lt l2,by rw[List.length_set]; exact h.bG⟩
 ·obtain⟨st,h⟩:=h.xc; exact⟨st,by rw[ne l4]; exact h⟩
 ·rw[List.getElem?_set_self hpl]
  show _=some (LObj.dyn ((putR s.r i v).map .u) (putR s.r i v).length 1 0 st)
  rw[hpr]
 ·obtain⟨st,h⟩:=h.bb; exact⟨st,by rw[ne (Ne.symm l6)]; exact h⟩
 ·obtain⟨st,h'⟩:=h.row j hj
  refine⟨st,?_⟩
  rw[ne (h.qlt _ (by simp[List.getD_eq_getElem?_getD,hj])).2.2.1]; exact h'
theorem MsH.sto (h:MsH G x pr pb kb qs b regs bs os L s) {j:Nat} {row:List UInt64} {st:Nat} (hj:j < qs.length):MsH (G.set (qs.getD j 0) (.dyn (row.map .u) row.length 1 0 st)) x pr pb kb qs b regs bs os L ⟨s.i,s.first,s.r,s.bufs.set j row,s.l⟩:=by
 obtain⟨l1,l2,l3,l4,l5,l6⟩:=h.lt
 obtain⟨q1,q2,q3,q4⟩:=h.qlt (qs.getD j 0) (by simp[List.getD_eq_getElem?_getD,hj])
 have hpl:qs.getD j 0 < G.length:=by obtain⟨st,h⟩:=h.row j hj; exact (List.getElem?_eq_some_iff.1 h).1
 have ne:∀ {q:Nat} {ob:LObj},q≠qs.getD j 0→(G.set (qs.getD j 0) ob)[q]?=G[q]?:=fun hq=>List.getElem?_set_ne (Ne.symm hq)
 refine⟨?_,?_,?_,fun k hk=>?_,by simpa using h.bl,h.lt,h.qlt,h.nd,h.ev.set_lt q1,by rw[List.length_set]; exact h.bG⟩
 ·obtain⟨st,h⟩:=h.xc; exact⟨st,by rw[ne (Ne.symm q2)]; exact h⟩
 ·obtain⟨st,h⟩:=h.rr; exact⟨st,by rw[ne (Ne.symm q3)]; exact h⟩
 ·obtain⟨st,h⟩:=h.bb; exact⟨st,by rw[ne (Ne.symm q4)]; exact h⟩
 ·show ∃ st',_=some (LObj.dyn (((s.bufs.set j row).getD k []).map .u) ((s.bufs.set j row).getD k []).length 1 0 st')
  rw[z41 _ _ _ _ _ (by rw[h.bl]; exact hj)]
  by_cases e:k=j
  ·subst e
   rw[if_pos rfl]
   exact⟨st,List.getElem?_set_self hpl⟩
  ·rw[if_neg e]
   obtain⟨st',h'⟩:=h.row k hk
   refine⟨st',?_⟩
   rw[ne (fun q=>e ?_)]
   ·exact h'
   ·simp only[List.getD_eq_getElem?_getD,List.getElem?_eq_getElem hk,List.getElem?_eq_getElem hj,Option.getD_some] at q
    exact (List.getElem_inj h.nd).1 q
end msh
theorem zh5 {regs:Int} {bs:List Bf} {o:Lo} (h:z0p regs bs o=true):(o.d=-1∨0≤o.d∧o.d < regs)∧(o.e=-1∨0≤o.e∧o.e < regs)∧(o.a=-1∨0≤o.a∧o.a < regs)∧(o.b=-1∨0≤o.b∧o.b < regs)∧(o.c=-1∨0≤o.c∧o.c < regs)∧(o.kind=14∨o.kind=15→0≤o.buf∧o.buf < bs.length):=by
 unfold z0p at h
 simp only[Bool.and_eq_true] at h
 obtain⟨_,d,e,a,b,c,_,m⟩:=h
 have f:∀ {x:Int} {t:Bool},z06 regs x t=true→x=-1∨0≤x∧x < regs:=fun {x t} h=>by
  unfold z06 at h
  cases t with
  | true=>simp at h; exact .inr h
  | false=>simp at h; exact .inl h
 refine⟨f d,f e,?_,f b,f c,fun k=>?_⟩
 ·simp only[Bool.or_eq_true,Bool.and_eq_true,decide_eq_true_eq] at a
  exact a.elim f fun q=>.inl q.2
 ·rw[if_pos (by unfold memK; simpa using k)] at m
  simp only[Bool.and_eq_true,decide_eq_true_eq] at m
  exact⟨m.1,m.2.1⟩
def PhiD (x pr pb kb:Nat) (qs:List Nat) (b:Nat) (regs:Int) (bs:List Bf) (os:List Lo) (L:LV) (s:Ms) (o:Lo) (G0:z03) (ρ:LEnv) (D:List Nat) (G:z03):Prop :=
 D=[]∧lk ρ 0=.ptr x 0∧lk ρ 1=.i s.i∧∃ (z:Nat) (d e:UInt64) (pl:Int) (bufs:List (List UInt64)),lk ρ 5=.ptr z 0∧b≤z∧G[z]?=some (.cells o.f 1)∧lk ρ 9=.i pl∧lk ρ 10=.u d∧lk ρ 11=.u e ∧
  MsH G x pr pb kb qs b regs bs os L ⟨s.i,s.first,s.r,bufs,s.l⟩∧doR o s=some ⟨s.i+1,s.first,putR (putR s.r o.d d) o.e e,bufs,s.l++[((s.i:Int),pl)]⟩∧∀ q,q < b→q ∉ qs→G[q]?=G0[q]?
theorem do_any {G:z03} {K:LV→z03→Prop} {x pr pb kb:Nat} {qs:List Nat} {b:Nat} {regs:Int} {bs:List Bf} {os:List Lo} {L:LV} {s:Ms} {o:Lo} (h:MsH G x pr pb kb qs b regs bs os L s) (ho:os[s.i]?=some o) (hf:z0p regs bs o=true) (h16:o.kind≠16) (h17:o.kind≠17) (hrl:(s.r.length:Int)=regs) (hqs:qs.length=bs.length) (hll:s.l.length≤900000000)
  (hrow:∀ x∈s.bufs,x.length≤65536)
  (kn:doR o s=none→∀ G',K (.bool false) G') (ks:∀ s' G' L',doR o s=some s'→MsH G' x pr pb kb qs b regs bs os L' s'→(∀ q,q < b→q≠x→q≠pr→q ∉ qs→G'[q]?=G[q]?)→K (.bool true) G'):z0k Tryz.prog (.fn 88) [.ptr x 0,.i s.i] G K:=by
 obtain⟨rd,re,ra,rb,rc,rm⟩:=zh5 hf
 have hkk:1≤o.kind∧o.kind≤17:=by
  unfold z0p at hf
  simp only[Bool.and_eq_true,decide_eq_true_eq] at hf
  exact hf.1
 have hC:o.f=[.i o.kind,.i o.d,.i o.e,.i o.a,.i o.b,.i o.c,.i o.buf,.u o.imm]:=rfl
 have hbG:=h.bG
 obtain⟨s1,h1⟩:=h.xc
 have lx:x < G.length:=(List.getElem?_eq_some_iff.1 h1).1
 have ho8:=zfc ho
 have hlt:=zs9 (List.getElem?_eq_some_iff.1 ho).1
 have hil2:s.i < os.length:=(List.getElem?_eq_some_iff.1 ho).1
 refine z01 r_ref12_run_do k_ref12_run_do (by simp) ?_
 rw[z7x,zcv,zcv,zcv,zcv,zcv]
 refine zwo (PhiD x pr pb kb qs b regs bs os L s o G) (fun Nx hNx=>?_) (fun ρ D G2 hΦ=>?_)
 ·simp[h1,hil2,ho8,hlt,hC]
  have hzo:(G++[LObj.cells o.f 1])[G.length]?=some (.cells o.f 1):=List.getElem?_concat_length
  have hm1:MsH (G++[LObj.cells o.f 1]) x pr pb kb qs b regs bs os L s:=h.keep (fun q hq=>oldP hq) (by simp)
  have hfr:∀ q,q < b→q ∉ qs→(G++[LObj.cells o.f 1])[q]?=G[q]?:=fun q hq _=>oldP (Nat.lt_of_lt_of_le hq hbG)
  have hzG:b≤G.length:=hbG
  rw[hC] at hzo hm1 hfr
  generalize G++[LObj.cells [.i o.kind,.i o.d,.i o.e,.i o.a,.i o.b,.i o.c,.i o.buf,.u o.imm] 1]=G1 at *
  generalize G.length=z at *
  refine zdo (r:=o.a) hm1 (by omega) ?_
  simp[hzo]
  refine zdo (r:=o.b) hm1 (by omega) ?_
  simp[hzo]
  refine zdo (r:=o.c) hm1 (by omega) ?_
  have hdo:o.kind≠14→o.kind≠15→doR o s=some ⟨s.i+1,s.first,putR (putR s.r o.d (valR o (atR s.r o.a) (atR s.r o.b) (decide (atR s.r o.c % 2=1))).1) o.e (valR o (atR s.r o.a) (atR s.r o.b) (decide (atR s.r o.c % 2=1))).2,s.bufs,s.l++[((s.i:Int),(-1:Int))]⟩:=fun e1 e2=>by
   unfold doR; rw[if_neg e1,if_neg e2]
  generalize hva:atR s.r o.a=va at *
  generalize hvb:atR s.r o.b=vb at *
  generalize hvc:atR s.r o.c=vc at *
  by_cases km:o.kind=14∨o.kind=15
  ·obtain⟨m0,m1⟩:=rm km
   obtain⟨nb,hnb⟩:=Int.eq_ofNat_of_zero_le m0
   have hnl:nb < qs.length:=by omega
   obtain⟨s3,h3⟩:=hm1.row nb hnl
   obtain⟨s4,h4⟩:=hm1.bb
   obtain⟨s5,h5⟩:=hm1.xc
   have hqq:(qs.map fun q=>LV.dy q 0)[nb]?=some (.dy (qs.getD nb 0) 0):=by simp[List.getD_eq_getElem?_getD,hnl]
   have hrr:rowR s.bufs o.buf=s.bufs.getD nb []:=by unfold rowR; rw[hnb]; rfl
   have hrl3:(s.bufs.getD nb []).length≤65536:=hrow _ (by simp[List.getD_eq_getElem?_getD,h.bl,hnl])
   have hmst:=fun (rw':List UInt64) (st':Nat)=>hm1.sto (row:=rw') (st:=st') hnl
   have hqb:=(h.qlt (qs.getD nb 0) (by simp[List.getD_eq_getElem?_getD,hnl])).1
   have hqm:qs.getD nb 0∈qs:=by simp[List.getD_eq_getElem?_getD,hnl]
   have hql:qs.getD nb 0 < G1.length:=(List.getElem?_eq_some_iff.1 h3).1
   have hcmp:iU (((s.bufs.getD nb []).length:Nat):Int)≤o.imm+va↔(s.bufs.getD nb []).length≤(o.imm+va).toNat:=by
    rw[UInt64.le_iff_toNat_le,zba (by omega)]
   generalize s.bufs.getD nb []=row at *
   generalize qs.getD nb 0=qn at *
   generalize hn:(o.imm+va).toNat=n at *
   by_cases hlt2:n < row.length
   case neg =>
    have hle:row.length≤n:=by omega
    have hno:doR o s=none:=by
     unfold doR
     rw[hrr,hva,hn,if_neg hlt2,if_neg hlt2]
     rcases km with k | k
     ·rw[if_pos k]
     ·rw[if_neg (by omega),if_pos k]
    rcases km with k | k
    ·simp[hzo,k,h3,h4,h5,hnb,hnl,z05 hqq,z2h,hcmp,hle,lpV]
     exact kn hno _
    ·simp[hzo,k,h3,h4,h5,hnb,hnl,z05 hqq,z2h,hcmp,hle,lpV]
     exact kn hno _
   have hnle:¬ row.length≤n:=by omega
   rcases km with k | k
   ·have hd2:doR o s=some ⟨s.i+1,s.first,putR (putR s.r o.d row[n]) o.e 0,s.bufs,s.l++[((s.i:Int),(n:Int))]⟩:=by
     unfold doR
     rw[hrr,hva,hn,if_pos k,if_pos hlt2]
     simp[List.getD_eq_getElem?_getD,hlt2]
    simp[hzo,k,h3,h4,h5,hnb,hnl,z05 hqq,z2h,hcmp,hnle,hn,hlt2,lpV]
    repeat (refine⟨by omega,?_⟩)
    exact hNx _ _ _ ⟨rfl,by simp,by simp,z,_,_,(n:Int),s.bufs,by simp,hzG,hzo,by simp,by simp,by simp,hm1,hd2,hfr⟩
   ·have hd2:doR o s=some ⟨s.i+1,s.first,putR (putR s.r o.d 0) o.e 0,s.bufs.set nb (row.set n vb),s.l++[((s.i:Int),(n:Int))]⟩:=by
     unfold doR
     rw[hrr,hva,hvb,hn,if_neg (by omega),if_pos k,if_pos hlt2,hnb]; rfl
    have e1:z0w (row.map LV.u) n [.u vb]=(row.set n vb).map LV.u:=by
     rw[zrj (by simpa using hlt2),List.map_set]
    simp[hzo,k,h3,h4,h5,hnb,hnl,z05 hqq,z2h,hcmp,hnle,hn,hlt2,lpV,e1]
    repeat (refine⟨by omega,?_⟩)
    have hm2:=hmst (row.set n vb) (s3+1)
    simp only[List.map_set,List.length_set] at hm2
    refine hNx _ _ _ ⟨rfl,by simp,by simp,z,0,0,(n:Int),s.bufs.set nb (row.set n vb),by simp,hzG,?_,by simp,by simp,by simp,hm2,hd2,fun q hq hqn=>?_⟩
    ·rw[List.getElem?_set_ne (fun e=>by rw[e,hzo] at h3; cases h3)]; exact hzo
    ·rw[List.getElem?_set_ne (fun e=>hqn (by rw[←e]; exact hqm))]; exact hfr q hq hqn
  have k14:o.kind≠14:=fun q=>km (.inl q)
  have k15:o.kind≠15:=fun q=>km (.inr q)
  have hdo:=hdo k14 k15
  have fin:∀ (ρ':LEnv),lk ρ' 0=.ptr x 0→lk ρ' 1=.i s.i→lk ρ' 5=.ptr z 0→lk ρ' 9=.i (-1)→lk ρ' 10=.u (valR o va vb (decide (vc % 2=1))).1→lk ρ' 11=.u (valR o va vb (decide (vc % 2=1))).2→Nx ρ' [] G1:=by
   intro ρ' a0 a1 a5 a9 a10 a11
   exact hNx _ _ _ ⟨rfl,a0,a1,z,_,_,-1,s.bufs,a5,hzG,hzo,a9,a10,a11,hm1,hdo,hfr⟩
  clear hdo hNx h hm1 kn ks
  by_cases k1:o.kind=1
  ·have hv:∀ c,valR o va vb c=(o.imm,0):=fun c=>by unfold valR; simp[k1]
   rw[hv] at fin
   simp[hzo,k1]
   exact fin _ (by simp) (by simp) (by simp) (by simp) (by simp[z2h,z4n,z65,z9d,z7q,z75,z6a]) (by simp)
  by_cases k2:o.kind=2
  ·have hv:∀ c,valR o va vb c=(va,0):=fun c=>by unfold valR; simp[k2]
   rw[hv] at fin
   simp[hzo,k2]
   exact fin _ (by simp) (by simp) (by simp) (by simp) (by simp[z2h,z4n,z65,z9d,z7q,z75,z6a]) (by simp)
  by_cases k3:o.kind=3
  ·have hv:∀ c,valR o va vb c=(va+vb,0):=fun c=>by unfold valR; simp[k3]
   rw[hv] at fin
   simp[hzo,k3]
   exact fin _ (by simp) (by simp) (by simp) (by simp) (by simp[z2h,z4n,z65,z9d,z7q,z75,z6a]) (by simp)
  by_cases k4:o.kind=4
  ·have hv:∀ c,valR o va vb c=(va - vb,0):=fun c=>by unfold valR; simp[k4]
   rw[hv] at fin
   simp[hzo,k4]
   exact fin _ (by simp) (by simp) (by simp) (by simp) (by simp[z2h,z4n,z65,z9d,z7q,z75,z6a]) (by simp)
  by_cases k5:o.kind=5
  ·have hv:∀ c,valR o va vb c=(va &&& vb,0):=fun c=>by unfold valR; simp[k5]
   rw[hv] at fin
   simp[hzo,k5]
   exact fin _ (by simp) (by simp) (by simp) (by simp) (by simp[z2h,z4n,z65,z9d,z7q,z75,z6a]) (by simp)
  by_cases k6:o.kind=6
  ·have hv:∀ c,valR o va vb c=(va ||| vb,0):=fun c=>by unfold valR; simp[k6]
   rw[hv] at fin
   simp[hzo,k6]
   exact fin _ (by simp) (by simp) (by simp) (by simp) (by simp[z2h,z4n,z65,z9d,z7q,z75,z6a]) (by simp)
  by_cases k7:o.kind=7
  ·have hv:∀ c,valR o va vb c=(va ^^^ vb,0):=fun c=>by unfold valR; simp[k7]
   rw[hv] at fin
   simp[hzo,k7]
   exact fin _ (by simp) (by simp) (by simp) (by simp) (by simp[z2h,z4n,z65,z9d,z7q,z75,z6a]) (by simp)
  by_cases k8:o.kind=8
  ·have hv:∀ c,valR o va vb c=(UInt64.ofNat (va.toNat * 2 ^ o.imm.toNat),0):=fun c=>by unfold valR; simp[k8]
   rw[hv] at fin
   simp[hzo,k8]
   exact fin _ (by simp) (by simp) (by simp) (by simp) (by simp[z2h,z4n,z65,z9d,z7q,z75,z6a]) (by simp)
  by_cases k9:o.kind=9
  ·have hv:∀ c,valR o va vb c=(UInt64.ofNat (va.toNat / 2 ^ o.imm.toNat),0):=fun c=>by unfold valR; simp[k9]
   rw[hv] at fin
   simp[hzo,k9]
   exact fin _ (by simp) (by simp) (by simp) (by simp) (by simp[z2h,z4n,z65,z9d,z7q,z75,z6a]) (by simp)
  by_cases k10:o.kind=10
  ·have hv:∀ c,valR o va vb c=(zdp va vb,va * vb):=fun c=>by unfold valR; simp[k10]
   rw[hv] at fin
   simp[hzo,k10]
   refine z02 (zlz va vb) (bors_self _ rfl) ?_
   simp
   exact fin _ (by simp) (by simp) (by simp) (by simp) (by simp) (by simp)
  by_cases k11:o.kind=11
  ·have hv:∀ c,valR o va vb c=((addC va vb c).1,bitR (addC va vb c).2):=fun c=>by unfold valR; simp[k11]
   rw[hv] at fin
   simp[hzo,k11,zfg]
   refine z02 (zee va vb (decide (vc % 2=1))) (bors_self _ rfl) ?_
   simp
   refine z02 (zeb _) (bors_self _ rfl) ?_
   simp
   exact fin _ (by simp) (by simp) (by simp) (by simp) (by simp) (by simp)
  by_cases k12:o.kind=12
  ·have hv:∀ c,valR o va vb c=((subC va vb c).1,bitR (subC va vb c).2):=fun c=>by unfold valR; simp[k12]
   rw[hv] at fin
   simp[hzo,k12,zfg]
   refine z02 (zec va vb (decide (vc % 2=1))) (bors_self _ rfl) ?_
   simp
   refine z02 (zeb _) (bors_self _ rfl) ?_
   simp
   exact fin _ (by simp) (by simp) (by simp) (by simp) (by simp) (by simp)
  by_cases k13:o.kind=13
  ·have hv:∀ c,valR o va vb c=(if c then va else vb,0):=fun c=>by unfold valR; simp[k13]
   rw[hv] at fin
   by_cases c1:vc % 2=1
   ·simp[hzo,k13,c1,zfg]
    exact fin _ (by simp) (by simp) (by simp) (by simp) (by simp[c1]) (by simp)
   ·simp[hzo,k13,c1,zfg]
    exact fin _ (by simp) (by simp) (by simp) (by simp) (by simp[c1]) (by simp)
  omega
 ·obtain⟨rfl,a0,a1,z,d,e,pl,bufs,a5,bz,hz,a9,a10,a11,hm,hdo,hfr⟩:=hΦ
  rw[hdo] at ks
  rw[hC] at hz
  have hrl2:∀ (i:Int) (v:UInt64) (r:List UInt64),(putR r i v).length=r.length:=fun i v r=>by unfold putR; split <;> simp
  refine zwo (fun ρ D G'=>D=[]∧lk ρ 0=.ptr x 0∧lk ρ 1=.i s.i∧lk ρ 5=.ptr z 0∧G'[z]?=some (.cells [.i o.kind,.i o.d,.i o.e,.i o.a,.i o.b,.i o.c,.i o.buf,.u o.imm] 1)∧lk ρ 9=.i pl∧lk ρ 11=.u e∧MsH G' x pr pb kb qs b regs bs os L ⟨s.i,s.first,putR s.r o.d d,bufs,s.l⟩∧∀ q,q < b→q≠pr→q ∉ qs→G'[q]?=G[q]?) (fun Nx hNx=>?_) (fun ρ D G3 h3=>?_)
  ·obtain⟨t1,hx1⟩:=hm.xc
   obtain⟨t2,hr1⟩:=hm.rr
   dsimp only at hr1
   by_cases d0:0≤o.d
   ·obtain⟨dn,hdn⟩:=Int.eq_ofNat_of_zero_le d0
    have hdr:dn < s.r.length:=by omega
    have e1:z0w (s.r.map LV.u) dn [.u d]=(putR s.r o.d d).map LV.u:=by
     rw[zrj (by simpa using hdr),putR,if_pos d0,hdn,List.map_set]; rfl
    have hm2:=hm.putr (i:=o.d) (v:=d) (st:=t2+1)
    dsimp only at hm2
    simp[a0,a1,a5,a9,a10,hz,hx1,hr1,hdn,hdr,e1]
    rw[←hdn]
    refine⟨by omega,hNx _ _ _ ⟨rfl,?_,?_,?_,?_,?_,?_,hm2,fun q hq hqp hqn=>?_⟩⟩
    ·simp[a0]
    ·simp[a1]
    ·simp[a5]
    rotate_left
    ·simp[a9]
    ·simp[a11]
    rotate_left
    ·rw[List.getElem?_set_ne (fun e=>by rw[e,hz] at hr1; cases hr1)]; exact hz
    ·rw[List.getElem?_set_ne (Ne.symm hqp)]; exact hfr q hq hqn
   ·have e1:putR s.r o.d d=s.r:=by unfold putR; rw[if_neg d0]
    simp[a0,a1,a5,a9,a10,hz,d0]
    refine hNx _ _ _ ⟨rfl,?_,?_,?_,hz,?_,?_,e1.symm ▸ hm,fun q hq _ hqn=>hfr q hq hqn⟩
    all_goals simp[a0,a1,a5,a9,a11]
  clear a0 a1 a5 a9 a10 a11 hm hfr hz
  obtain⟨rfl,a0,a1,a5,hz,a9,a11,hm,hfr⟩:=h3
  have hrl3:=hrl2 o.d d s.r
  generalize putR s.r o.d d=r1 at *
  refine zwo (fun ρ D G'=>D=[]∧lk ρ 0=.ptr x 0∧lk ρ 1=.i s.i∧lk ρ 9=.i pl∧MsH G' x pr pb kb qs b regs bs os L ⟨s.i,s.first,putR r1 o.e e,bufs,s.l⟩∧∀ q,q < b→q≠pr→q ∉ qs→G'[q]?=G[q]?) (fun Nx hNx=>?_) (fun ρ D G4 h4=>?_)
  ·obtain⟨t1,hx1⟩:=hm.xc
   obtain⟨t2,hr1⟩:=hm.rr
   dsimp only at hr1
   by_cases d0:0≤o.e
   ·obtain⟨dn,hdn⟩:=Int.eq_ofNat_of_zero_le d0
    have hdr:dn < r1.length:=by omega
    have e1:z0w (r1.map LV.u) dn [.u e]=(putR r1 o.e e).map LV.u:=by
     rw[zrj (by simpa using hdr),putR,if_pos d0,hdn,List.map_set]; rfl
    have hm2:=hm.putr (i:=o.e) (v:=e) (st:=t2+1)
    dsimp only at hm2
    simp[a0,a1,a5,a9,a11,hz,hx1,hr1,hdn,hdr,e1]
    rw[←hdn]
    refine⟨by omega,hNx _ _ _ ⟨rfl,?_,?_,?_,hm2,fun q hq hqp hqn=>?_⟩⟩
    ·simp[a0]
    ·simp[a1]
    ·simp[a9]
    rw[List.getElem?_set_ne (Ne.symm hqp)]; exact hfr q hq hqp hqn
   ·have e1:putR r1 o.e e=r1:=by unfold putR; rw[if_neg d0]
    simp[a0,a1,a5,a9,a11,hz,d0]
    refine hNx _ _ _ ⟨rfl,?_,?_,?_,e1.symm ▸ hm,fun q hq hqp hqn=>hfr q hq hqp hqn⟩
    all_goals simp[a0,a1,a9]
  clear a0 a1 a5 a9 a11 hm hfr hz
  obtain⟨rfl,a0,a1,a9,hm,hfr⟩:=h4
  generalize putR r1 o.e e=r2 at *
  obtain⟨t1,hx1⟩:=hm.xc
  have lx4:x < G4.length:=(List.getElem?_eq_some_iff.1 hx1).1
  have q1:∀ y:List LObj,(G4++y)[x]?=_:=fun y=>(oldP lx4).trans hx1
  simp[a0,a1,a9,hx1,↓q1]
  refine StD.push2 (x:=[.i (s.i:Int),.i pl]) hm.ev.push_end (by omega) (by simp; have:=hm.bG; omega) (by show s.l.length≤_; omega) rfl rfl fun L' G5 hs5 hf5 hl5 hr5=>?_
  have hG4b:=hm.bG
  have hx5:G5[x]?=_:=(hf5 x (by simp; omega) (fun e=>by have:=(hm.ev.row e).1; have:=h.lt.1; omega)).trans (q1 _)
  have hcl:L'.cells=some [L']:=hs5.cells
  simp[-LV.cells,hcl,hx5]
  refine ks _ _ L' rfl ?_ ?_
  ·obtain⟨l1,l2,l3,l4,l5,l6⟩:=hm.lt
   have hx5l:x < G5.length:=(List.getElem?_eq_some_iff.1 hx5).1
   have ne:∀ {q:Nat} {ob:LObj},q≠x→(G5.set x ob)[q]?=G5[q]?:=fun hq=>List.getElem?_set_ne (Ne.symm hq)
   have keep:∀ {q:Nat} {ob:LObj},q < b→G4[q]?=some ob→G5[q]?=some ob:=fun {q ob} hq ho=>by
    rw[hf5 q (by simp; omega) (fun e=>by have:=(hm.ev.row e).1; omega),oldP (List.getElem?_eq_some_iff.1 ho).1]; exact ho
   refine⟨⟨t1+1,List.getElem?_set_self hx5l⟩,?_,?_,fun j hj=>?_,hm.bl,hm.lt,hm.qlt,hm.nd,?_,by rw[List.length_set]; simp at hl5; omega⟩
   ·obtain⟨st,h⟩:=hm.rr; exact⟨st,by rw[ne (Ne.symm l4)]; exact keep l2 h⟩
   ·obtain⟨st,h⟩:=hm.bb; exact⟨st,by rw[ne (Ne.symm l5)]; exact keep l3 h⟩
   ·obtain⟨st,h⟩:=hm.row j hj
    have hq:=hm.qlt (qs.getD j 0) (by simp[List.getD_eq_getElem?_getD,hj])
    exact⟨st,by rw[ne hq.2.1]; exact keep hq.1 h⟩
   ·show StD b _ L' 2 (s.l++[((s.i:Int),pl)]).length (evC (s.l++[((s.i:Int),pl)]))
    rw[ztz,List.length_append]
    exact hs5.set_lt l1
  ·intro q hq hqx hqp hqn
   rw[List.getElem?_set_ne (Ne.symm hqx),hf5 q (by simp; omega) (fun e=>by have:=(hm.ev.row e).1; omega),oldP (by omega)]
   exact hfr q hq hqp hqn
end Go.Proofs.YtodjkjimaheggaaGreat
