/- Kernels' meaning: what is required; an operation done; a loop's end. -/
import Derived.Test.YtnbnhnjffiagmaaGreatFnNd
namespace Go.Proofs.YtnbnhnjffiagmaaGreat
open Go.Sv
set_option linter.unusedSimpArgs false
set_option maxRecDepth 10000
def c_slices_IndexFunc_api_KernOp_api_KernOp:LC:=(.seq (.ops [.z 4 (.move (.c (.i 0)))]) (.seq (.seq (.ops [.m 6 0,.z 7 (.lenSl (.t 6)),.z 8 (.move (.c (.i 0)))]) (.block 0 (.loop (.seq (.ops [.z 9 (.bin .lss false 3 (.t 8) (.t 7))]) (.seq (.cond (.t 9) .skip (.exit 0)) (.seq (.block 1 (.seq (.ops [.m 10 8,.m 5 10]) (.seq (.ops [.m 11 1,.m 12 0,.m 13 5,.z 14 (.ixAddr 7 (.t 12) (.t 13)),.z 15 (.loadN 7 (.t 14)),.z 16 (.callV (.t 11) [.t 15])]) (.cond (.t 16) (.seq (.ops [.m 17 5,.m 4 17]) .ret) .skip)))) (.ops [.z 18 (.bin .add true 3 (.t 8) (.c (.i 1))),.m 8 18]))))))) (.seq (.ops [.z 4 (.move (.c (.i (-1))))]) .ret)))
theorem r_slices_IndexFunc_api_KernOp_api_KernOp:resFn Tryz.prog 83=some ⟨19,c_slices_IndexFunc_api_KernOp_api_KernOp.r,[.tmp 4]⟩:=by kernel_rfl
theorem k_slices_IndexFunc_api_KernOp_api_KernOp:c_slices_IndexFunc_api_KernOp_api_KernOp.ok=true:=by kernel_rfl
def c_slices_ContainsFunc_api_KernOp_api_KernOp:LC:=(.seq (.ops [.z 4 (.move (.c (.bool false)))]) (.seq (.ops [.m 5 0,.m 6 1,.z 7 (.callV (.c (.fn (.func 83) [] [])) [.t 5,.t 6]),.z 8 (.bin .geq true 3 (.t 7) (.c (.i 0))),.m 4 8]) .ret))
theorem r_slices_ContainsFunc_api_KernOp_api_KernOp:resFn Tryz.prog 47=some ⟨9,c_slices_ContainsFunc_api_KernOp_api_KernOp.r,[.tmp 4]⟩:=by kernel_rfl
theorem k_slices_ContainsFunc_api_KernOp_api_KernOp:c_slices_ContainsFunc_api_KernOp_api_KernOp.ok=true:=by kernel_rfl
def c_denote_Met_1:LC:=(.seq (.ops [.z 2 (.box (.t 0)),.z 3 (.move (.c (.bool false)))]) (.seq (.ops [.l 4 1,.z 5 (.loadN 7 (.t 2)),.z 6 (.callV (.c (.fn (.func 49) [] [])) [.t 4,.t 5]),.z 7 (.un .not (.t 6)),.m 3 7]) .ret))
theorem r_denote_Met_1:resFn Tryz.prog 48=some ⟨8,c_denote_Met_1.r,[.tmp 3]⟩:=by kernel_rfl
theorem k_denote_Met_1:c_denote_Met_1.ok=true:=by kernel_rfl
def c_denote_Met:LC:=(.seq (.ops [.z 2 (.box (.t 0)),.z 4 (.move (.c (.bool false)))]) (.seq (.seq (.ops [.z 6 (.loadN 3 (.t 2)),.m 7 1,.z 8 (.callV (.c (.fn (.func 30) [] [])) [.t 6,.t 7]),.z 9 (.bin .neq true 32 (.t 8) (.c (.i 0)))]) (.cond (.t 9) (.seq (.ops [.z 4 (.move (.c (.bool false)))]) .ret) .skip)) (.seq (.ops [.z 10 (.loadN 3 (.t 2)),.m 11 1,.z 12 (.callV (.c (.fn (.func 39) [] [])) [.t 10,.t 11]),.z 5 (.alloc [.nilPtr]),⟨none,none,.store 1 (.t 5) (.t 12)⟩]) (.seq (.ops [.f 13 2 2,.l 14 13,.z 15 (.mkFunc 48 [] [.t 5]),.z 16 (.callV (.c (.fn (.func 47) [] [])) [.t 14,.t 15]),.z 17 (.un .not (.t 16)),.m 4 17]) .ret))))
theorem r_denote_Met:resFn Tryz.prog 18=some ⟨18,c_denote_Met.r,[.tmp 4]⟩:=by kernel_rfl
theorem k_denote_Met:c_denote_Met.ok=true:=by kernel_rfl
def c_denote_run_at:LC:=(.seq (.ops [.z 4 (.move (.c .nilSl))]) (.seq (.seq (.ops [.m 5 1,.z 6 (.bin .lss true 3 (.t 5) (.c (.i 0)))]) (.cond (.t 6) (.seq (.ops [.z 4 (.move (.c .nilSl))]) .ret) .skip)) (.seq (.ops [.m 7 0,.z 8 (.nilChk (.t 7)),.f 9 4 8,.l 10 9,.m 11 1,.z 12 (.ixAddr 1 (.t 10) (.t 11)),.l 13 12,.m 4 13]) .ret)))
theorem r_denote_run_at:resFn Tryz.prog 114=some ⟨14,c_denote_run_at.r,[.tmp 4]⟩:=by kernel_rfl
theorem k_denote_run_at:c_denote_run_at.ok=true:=by kernel_rfl
def c_denote_run_make:LC:=(.seq (.ops [.z 5 (.box (.t 2))]) (.seq (.draw [(.m 7 0,[]),(.z 8 (.nilChk (.t 7)),[]),(.f 9 0 8,[]),(.f 10 0 9,[]),(.l 11 10,[]),(.f 12 1 5,[]),(.l 13 12,[]),(.z 14 (.ixAddr 3 (.t 11) (.t 13)),[]),(.f 15 0 14,[]),(.l 16 15,[]),(.f 17 6 5,[]),(.l 18 17,[]),(.m 19 0,[]),(.f 20 3 5,[]),(.l 21 20,[]),(.m 23 0,[]),(.f 24 4 5,[]),(.l 25 24,[]),(.m 27 0,[]),(.f 28 5 5,[]),(.l 29 28,[]),(.z 6 (.alloc [(.i 0),(.u 0),.nilSl,.nilSl,.nilSl,(.i 0)]),[(.l 29 28,false),(.l 25 24,false),(.l 21 20,false),(.l 18 17,false),(.l 16 15,false),(.l 13 12,false),(.l 11 10,false)]),(.z 22 (.callV (.c (.fn (.func 114) [] [])) [.t 19,.t 21]),[(.z 6 (.alloc [(.i 0),(.u 0),.nilSl,.nilSl,.nilSl,(.i 0)]),true),(.l 29 28,false),(.l 25 24,false),(.l 18 17,false),(.l 16 15,false),(.l 13 12,false),(.l 11 10,false)]),(.z 26 (.callV (.c (.fn (.func 114) [] [])) [.t 23,.t 25]),[(.z 6 (.alloc [(.i 0),(.u 0),.nilSl,.nilSl,.nilSl,(.i 0)]),true),(.l 29 28,false),(.l 18 17,false),(.l 16 15,false),(.l 13 12,false),(.l 11 10,false)]),(.z 30 (.callV (.c (.fn (.func 114) [] [])) [.t 27,.t 29]),[(.z 6 (.alloc [(.i 0),(.u 0),.nilSl,.nilSl,.nilSl,(.i 0)]),true),(.l 18 17,false),(.l 16 15,false),(.l 13 12,false),(.l 11 10,false)]),(.z 31 (.build [(.i 0),(.u 0),.nilSl,.nilSl,.nilSl,(.i 0)] [(0,1,.t 16),(1,1,.t 18),(2,1,.t 22),(3,1,.t 26),(4,1,.t 30)]),[]),(⟨none,none,.store 6 (.t 6) (.t 31)⟩,[])]) (.seq (.seq (.ops [.f 32 5 5,.l 33 32,.z 34 (.bin .geq true 3 (.t 33) (.c (.i 0)))]) (.cond (.t 34) (.draw [(.m 35 0,[]),(.z 36 (.nilChk (.t 35)),[]),(.f 37 0 36,[]),(.f 38 0 37,[]),(.l 39 38,[]),(.f 40 5 5,[]),(.l 41 40,[]),(.z 42 (.ixAddr 3 (.t 39) (.t 41)),[]),(.f 43 0 42,[]),(.l 44 43,[]),(.f 45 5 6,[]),(⟨none,none,.store 1 (.t 45) (.t 44)⟩,[])]) .skip)) (.draw [(.m 46 0,[]),(.z 47 (.nilChk (.t 46)),[]),(.f 48 4 47,[]),(.l 49 48,[]),(.f 50 1 5,[]),(.l 51 50,[]),(.m 52 1,[]),(.z 53 (.loadN 6 (.t 6)),[]),(.f 55 0 6,[]),(.l 56 55,[]),(.z 54 (.callV (.t 52) [.t 53]),[(.l 56 55,false),(.l 51 50,false),(.l 49 48,false)]),(.z 57 (.callV (.c (.fn (.func 115) [] [])) [.t 54,.t 56]),[(.l 51 50,false),(.l 49 48,false)]),(.z 58 (.ixAddr 1 (.t 49) (.t 51)),[]),(⟨none,none,.store 1 (.t 58) (.t 57)⟩,[])]))))
theorem r_denote_run_make:resFn Tryz.prog 70=some ⟨59,c_denote_run_make.r,[]⟩:=by kernel_rfl
theorem k_denote_run_make:c_denote_run_make.ok=true:=by kernel_rfl
def c_denote_run_end:LC:=(.seq (.ops [.z 4 (.move (.c (.i 0)))]) (.seq (.draw [(.m 6 0,[]),(.z 7 (.nilChk (.t 6)),[]),(.f 8 5 7,[]),(.l 9 8,[]),(.m 10 0,[]),(.z 11 (.nilChk (.t 10)),[]),(.f 12 5 11,[]),(.l 13 12,[]),(.z 14 (.lenSl (.t 13)),[]),(.z 15 (.bin .sub true 3 (.t 14) (.c (.i 1))),[]),(.z 16 (.ixAddr 2 (.t 9) (.t 15)),[]),(.m 5 16,[])]) (.seq (.seq (.ops [.m 17 5,.z 18 (.nilChk (.t 17)),.f 19 1 18,.l 20 19,.z 21 (.bin .sub true 28 (.t 20) (.c (.u 1))),.z 22 (.nilChk (.t 17)),.f 23 1 22,⟨none,none,.store 1 (.t 23) (.t 21)⟩]) (.seq (.ops [.m 24 5,.z 25 (.nilChk (.t 24)),.f 26 1 25,.l 27 26,.z 28 (.bin .gtr true 28 (.t 27) (.c (.u 0)))]) (.cond (.t 28) (.seq (.ops [.m 29 0,.z 30 (.nilChk (.t 29)),.f 31 3 30,.l 32 31,.m 33 1,.z 34 (.ixAddr 1 (.t 32) (.t 33)),.l 35 34,.m 4 35]) .ret) .skip))) (.seq (.draw [(.m 36 0,[]),(.m 37 0,[]),(.z 38 (.nilChk (.t 37)),[]),(.f 39 5 38,[]),(.l 40 39,[]),(.m 41 0,[]),(.z 42 (.nilChk (.t 41)),[]),(.f 43 5 42,[]),(.l 44 43,[]),(.z 45 (.lenSl (.t 44)),[]),(.z 46 (.bin .sub true 3 (.t 45) (.c (.i 1))),[]),(.z 47 (.slSl 2 (.t 40) none (some (.t 46))),[]),(.z 48 (.nilChk (.t 36)),[]),(.f 49 5 48,[]),(⟨none,none,.store 1 (.t 49) (.t 47)⟩,[])]) (.seq (.ops [.m 50 1,.m 4 50]) .ret)))))
theorem r_denote_run_end:resFn Tryz.prog 69=some ⟨51,c_denote_run_end.r,[.tmp 4]⟩:=by kernel_rfl
theorem k_denote_run_end:c_denote_run_end.ok=true:=by kernel_rfl
theorem IndexOps_any {G:LHeap} {l:List Ko} {f:Nat} {a b:List LV} {p:Ko→Bool} {I:LHeap→Prop} {K:LV→LHeap→Prop} (hl:l.length≤1000000) (h0:I G)
  (hf:∀ G1,I G1→∀ v∈l,∀ K':LV→LHeap→Prop,(∀ G2,I G2→K' (.bool (p v)) G2)→CallL Tryz.prog (.fn f) (a++[.agg v.f]++b) G1 K')
  (k:∀ (r:Int) G2,I G2→decide (0≤r)=l.any p→K (.i r) G2):CallL Tryz.prog (.fn 83) [.lst (osC l) l.length 7,.fn (.func f) a b] G K:=by
 refine call_body r_slices_IndexFunc_api_KernOp_api_KernOp k_slices_IndexFunc_api_KernOp_api_KernOp (by simp) ?_
 simp[c_slices_IndexFunc_api_KernOp_api_KernOp]
 refine loop_nx (fun ρ D G' N=>∃ i:Nat,D=[]∧I G'∧N+i=l.length∧lk ρ 0=.lst (osC l) l.length 7∧lk ρ 1=.fn (.func f) a b∧lk ρ 7=.i l.length∧lk ρ 8=.i i∧(l.take i).any p=false) (N:=l.length) ⟨0,by simp[h0]⟩ ?_
 rintro N ρ D G' ⟨i,rfl,hI,hN,h0,h1,h7,h8,hn⟩ Nx hNx
 by_cases g:i < l.length
 ·have q7:=os_seven (at_go g)
  have hqq:=os_lt g
  have he:go l i=l[i]:=by
   have:=at_go g; rw[List.getElem?_eq_getElem g] at this
   exact (Option.some.inj this).symm
  rw[he] at q7
  have hh:=hf G' hI l[i] (List.getElem_mem g)
  have hf7:l[i].f=[.i l[i].kind,.i l[i].d,.i l[i].e,.i l[i].a,.i l[i].b,.i l[i].c,.u l[i].imm]:=rfl
  have hnx:(l.take (i+1)).any p=p l[i]:=by
   rw[List.take_succ_eq_append_getElem g,List.any_append,hn]; simp
  simp[h0,h1,h7,h8,g,q7,hqq,hf7]
  rw[←hf7]
  simp only[List.append_assoc,List.singleton_append] at hh
  refine hh _ fun G2 hI2=>?_
  cases hb:p l[i] with
  | true =>
   simp
   refine k _ _ hI2 ?_
   have:l.any p=true:=List.any_eq_true.2 ⟨_,List.getElem_mem g,hb⟩
   rw[this]; simp
  | false =>
   simp[h8]
   rw[hb] at hnx
   exact⟨by omega,hNx _ _ _ ⟨N - 1,by omega,i+1,rfl,hI2,by omega,by simp[h0],by simp[h1],by simp[h7],by simp,hnx⟩⟩
 ·rw[List.take_of_length_le (by omega)] at hn
  simp[h0,h1,h7,h8,g]
  exact k _ _ hI (by rw[hn]; decide)
theorem ContainsOps_any {G:LHeap} {l:List Ko} {f:Nat} {a b:List LV} {p:Ko→Bool} {I:LHeap→Prop} {K:LV→LHeap→Prop} (hl:l.length≤1000000) (h0:I G)
  (hf:∀ G1,I G1→∀ v∈l,∀ K':LV→LHeap→Prop,(∀ G2,I G2→K' (.bool (p v)) G2)→CallL Tryz.prog (.fn f) (a++[.agg v.f]++b) G1 K')
  (k:∀ G2,I G2→K (.bool (l.any p)) G2):CallL Tryz.prog (.fn 47) [.lst (osC l) l.length 7,.fn (.func f) a b] G K:=by
 refine call_body r_slices_ContainsFunc_api_KernOp_api_KernOp k_slices_ContainsFunc_api_KernOp_api_KernOp (by simp) ?_
 simp[c_slices_ContainsFunc_api_KernOp_api_KernOp]
 refine IndexOps_any (p:=p) hl h0 hf fun r G2 hI e=>?_
 simp
 rw[e]
 exact k G2 hI
theorem Met_ok (vs:List Vr) (os rs:List Ko) (ins:List (List UInt64)) (hl1:vs.length≤9223372036854775807) (hi:∀ x∈ins,x.length≤1000) :
  FnS Tryz.prog 18 [.agg (kerC vs os rs),LN ins] (.bool (metD vs os rs (ins.map val))) []:=by
 have hkd:dats (kerC vs os rs)=true:=by simp[kerC,dats,LV.dat,vsC_dats,osC_dats]
 refine FnS.val rfl (call_body r_denote_Met k_denote_Met (by simp) ?_)
 have hk3:(kerC vs os rs).length=3:=rfl
 have hkt:(kerC vs os rs).take 3=kerC vs os rs:=rfl
 have hk2:(kerC vs os rs)[2]?=some (.lst (osC rs) rs.length 7):=rfl
 simp[c_denote_Met,hk3,hkt]
 refine CallL_F (Fits_ok vs os rs ins hl1 hi) (bors_self _ (by simp[dats,LV.dat,hkd,LN,LN_dats])) ?_
 by_cases hf:fitD vs os rs (ins.map val)=0
 case neg=>simp[hf,metD]
 obtain⟨hc,_,hfit⟩:=fitD_parts hf
 have hv:varsB vs=true:=by unfold chkB at hc; simp only[Bool.and_eq_true] at hc; exact hc.1
 have hrl:rs.length≤4096:=by
  have h:=hc
  unfold chkB at h
  simp only[Bool.and_eq_true,decide_eq_true_eq] at h
  exact h.2.2.1
 have hok:=okV_start hfit
 simp[hf,hk3,hkt]
 refine start_any hl1 hi hf fun G2 r p st st' hke hr hp hGr hGp=>?_
 have h0:G2[0]?=some (.cells (kerC vs os rs) 0):=hke.at (by simp)
 have l0:0 < G2.length:=(List.getElem?_eq_some_iff.1 h0).1
 have lr:r < G2.length:=(List.getElem?_eq_some_iff.1 hGr).1
 have lp:p < G2.length:=(List.getElem?_eq_some_iff.1 hGp).1
 have s0:∀ x y,((G2++[x]).set G2.length y)[0]?=some (.cells (kerC vs os rs) 0):=fun x y=>by rw[List.getElem?_set_ne (by omega),old1 l0]; exact h0
 have e0:∀ x,(G2++[x])[0]?=some (.cells (kerC vs os rs) 0):=fun x=>by rw[old1 l0]; exact h0
 simp[h0,↓s0,↓e0,nthL_at hk2]
 refine ContainsOps_any (l:=rs) (p:=fun o=>!metB o (startW vs (ins.map val))) (I:=fun G3=>Keep (G2++[.cells [.ptr r 0] 1]) G3) (by omega) (by simpa using Keep.refl (G2++[.cells [.ptr r 0] 1])) (fun G3 h3 o ho K' k'=>?_) fun G3 h3=>?_
 ·have hf7:o.f=[.i o.kind,.i o.d,.i o.e,.i o.a,.i o.b,.i o.c,.u o.imm]:=rfl
  have hcell:G3[G2.length]?=some (.cells [.ptr r 0] 1):=h3.at (by simp)
  have lc:G2.length < G3.length:=(List.getElem?_eq_some_iff.1 hcell).1
  have hr3:G3[r]?=some _:=h3.pre.at hGr
  have hp3:G3[p]?=some _:=h3.pre.at hGp
  refine call_body r_denote_Met_1 k_denote_Met_1 (by simp) ?_
  simp[c_denote_Met_1,↓old1 lc,hcell,hf7]
  rw[←hf7]
  refine holds_any (v:=startW vs (ins.map val)) (by rw[old1 (by omega)]; exact hr3) (st':=st') (by rw[hok.1,old1 (by omega)]; exact hp3) (fun i=>okV_len hv hok i) fun G4 h4=>?_
  simp
  exact k' _ (h3.trans h4.pre)
 ·simp
  have e:=not_any_not (fun o=>metB o (startW vs (ins.map val))) rs
  simp[metD,hf,←e]
theorem at_any {G:LHeap} {r p st st':Nat} {vs:List Vr} {os rs:List Ko} {E L:LV} {v:List Nat} {i:Int} {K:LV→LHeap→Prop} (hr:G[r]?=some (.cells (runC vs os rs E (.dy p 0) L) st)) (hp:G[p]?=some (.dyn (vaC v) v.length 1 0 st')) (hi:i < v.length) (k:K (cV v i) G):CallL Tryz.prog (.fn 114) [.ptr r 0,.i i] G K:=by
 refine call_body r_denote_run_at k_denote_run_at (by simp) ?_
 by_cases g:i < 0
 ·simp[c_denote_run_at,g]
  simpa [cV,g] using k
 ·obtain⟨n,rfl⟩:=Int.eq_ofNat_of_zero_le (show 0≤i by omega)
  have q:=vaC_at (v:=v) (i:=n) (by omega)
  have hn:n < v.length:=by omega
  have e:cV v (n:Int)=LU (toL (v.getD n 0)):=by unfold cV; rw[if_neg g]; rfl
  rw[e] at k
  generalize v.getD n 0=x at *
  simp[c_denote_run_at,hr,hp,runC,hn,nthL_at q]
  exact⟨fun h=>absurd h (by omega),k⟩
theorem make_any {G:LHeap} {r p st st' f:Nat} {vs:List Vr} {os rs:List Ko} {E L:LV} {v:List Nat} {o:Ko} {K:LV→LHeap→Prop} (hr:G[r]?=some (.cells (runC vs os rs E (.dy p 0) L) st)) (hp:G[p]?=some (.dyn (vaC v) v.length 1 0 st')) (hv:varsB vs=true) (hk:okV vs v) (ho:oneB vs o=true) (hm:metB o v=true) (hf:tabF o.kind=some f)
  (k:∀ G2,G.length≤G2.length→(∀ q,q < G.length→q≠p→G2[q]?=G[q]?)→G2[p]?=some (.dyn (vaC (stepV vs o v)) v.length 1 0 (st'+1))→K (.tup []) G2):CallL Tryz.prog (.fn 70) [.ptr r 0,.fn (.func f) [] [],.agg o.f] G K:=by
 have hrl:r < G.length:=(List.getElem?_eq_some_iff.1 hr).1
 have hpl:p < G.length:=(List.getElem?_eq_some_iff.1 hp).1
 have key:o.kind≠17∧o.kind≠15∧o.kind≠16∧o.kind≠14:=by
  refine⟨fun h=>?_,fun h=>?_,fun h=>?_,fun h=>?_⟩ <;> · rw[h] at hf; simp[tabF] at hf
 obtain⟨d0,d1⟩:=d_in ho key.1 key.2.1 key.2.2.1
 obtain⟨a1,b1,c1⟩:=abc_lt ho
 obtain⟨w,hw,hwv,hF⟩:=tab_ok hv hk ho hm hf
 obtain⟨l0,l1⟩:=limbs_at hv d0 d1
 have hf7:o.f=[.i o.kind,.i o.d,.i o.e,.i o.a,.i o.b,.i o.c,.u o.imm]:=rfl
 have hstep:stepV vs o v=v.set o.d.toNat (opV vs o v):=by
  unfold stepV
  rw[if_neg key.2.2.2,if_neg key.1]
 have hop:opV vs o v=val w % two64 (limbsAt vs o.d):=by unfold opV; rw[hwv]
 obtain⟨n,hn⟩:=Int.eq_ofNat_of_zero_le d0
 have hnl:n < vs.length:=by omega
 have qd:(vsC vs)[n * 3]?=some (.i (limbsAt vs o.d)):=by
  have:=vs_at0 (at_gv hnl)
  rw[this,limbsAt,hn]; rfl
 rw[hn] at hstep
 generalize limbsAt vs o.d=ld at *
 refine call_body r_denote_run_make k_denote_run_make (by simp) ?_
 simp[c_denote_run_make,hf7,hn,hnl,↓old1 hrl,hr,runC,nthL_at qd]
 refine at_any (v:=v) (by rw[old1 hrl]; exact hr) (by rw[old1 hpl]; exact hp) (by rw[hk.1]; exact a1) ?_
 simp[hn,hnl,↓old1 hrl,hr,runC,nthL_at qd]
 refine at_any (v:=v) (by rw[old1 hrl]; exact hr) (by rw[old1 hpl]; exact hp) (by rw[hk.1]; exact b1) ?_
 simp[hn,hnl,↓old1 hrl,hr,runC,nthL_at qd]
 refine at_any (v:=v) (by rw[old1 hrl]; exact hr) (by rw[old1 hpl]; exact hp) (by rw[hk.1]; exact c1) ?_
 have hlow:layLV (vaC v) n [.lst ((toL (val w % two64 ld)).map .u) (toL (val w % two64 ld)).length 1]=vaC (stepV vs o v):=by
  have:layLV (vaC v) n [LU (toL (val w % two64 ld))]=vaC (v.set n (val w % two64 ld)):=by
   rw[lay1 _ _ _ (by rw[vaC_len,hk.1]; exact hnl),vaC_set]
  rw[hstep,hop]
  exact this
 have hnv:n < v.length:=by rw[hk.1]; exact hnl
 by_cases hc0:0≤o.c
 ·obtain⟨m,hm0⟩:=Int.eq_ofNat_of_zero_le hc0
  have hml:m < vs.length:=by omega
  have qc:(vsC vs)[m * 3]?=some (.i (limbsAt vs o.c)):=by
   have:=vs_at0 (at_gv hml)
   rw[this,limbsAt,hm0]; rfl
  have hF:=hF (limbsAt vs o.c) (fun _=>rfl)
  generalize limbsAt vs o.c=lc at *
  simp[-LV.cells,cl_i,cl_u,cl_agg,cl_lst,cV_cells,hn,hnl,↓old1 hrl,hr,runC,nthL_at qd,hm0,hml,nthL_at qc,↓old1 hpl,hp]
  rw[←hm0]
  refine CallL_args (fun c r h=>arg_ok h) (CallL_V hF (by simp[dats,LV.dat,argF_dats]) ?_)
  simp[hn,↓old1 hrl,hr,runC,↓old1 hpl,hp]
  refine CallL_F (nat_Low_ok w ld (by omega)) (by simp) ?_
  simp[RU,hn,↓old1 hrl,hr,runC,↓old1 hpl,hp,hnv,hlow,vaC_len]
  exact⟨by omega,k _ (by simp) (fun q hq hqp=>by rw[List.getElem?_set_ne (Ne.symm hqp),old1 hq]) (List.getElem?_set_self (by simp; omega))⟩
 ·have hF:=hF 0 (fun h=>absurd h hc0)
  simp[-LV.cells,cl_i,cl_u,cl_agg,cl_lst,cV_cells,hn,hnl,↓old1 hrl,hr,runC,nthL_at qd,hc0,↓old1 hpl,hp]
  refine CallL_args (fun c r h=>arg_ok h) (CallL_V hF (by simp[dats,LV.dat,argF_dats]) ?_)
  simp[hn,↓old1 hrl,hr,runC,↓old1 hpl,hp]
  refine CallL_F (nat_Low_ok w ld (by omega)) (by simp) ?_
  simp[RU,hn,↓old1 hrl,hr,runC,↓old1 hpl,hp,hnv,hlow,vaC_len]
  exact⟨by omega,k _ (by simp) (fun q hq hqp=>by rw[List.getElem?_set_ne (Ne.symm hqp),old1 hq]) (List.getElem?_set_self (by simp; omega))⟩
theorem end_any {G:LHeap} {r st b i l:Nat} {vs:List Vr} {os rs:List Ko} {es:List Int} {V L:LV} {e:Int} {s:List (Int×Nat)} {K:LV→LHeap→Prop} (hr:G[r]?=some (.cells (runC vs os rs (.lst (es.map .i) es.length 1) V L) st)) (hrb:r < b) (hbl:b≤G.length) (hst:Stk b G L 2 (s.length+1) (lpC ((e,l)::s))) (hi:i < es.length) (hl1:1≤l) (hl:l≤4096) (hsl:s.length≤1000000)
  (k1:1 < l→∀ G2,(∀ q,q < b→G2[q]?=G[q]?)→b≤G2.length→Stk b G2 L 2 (s.length+1) (lpC ((e,l - 1)::s))→K (.i (gd es i)) G2)
  (k2:¬ 1 < l→∀ G2 L',(∀ q,q < b→q≠r→G2[q]?=G[q]?)→b≤G2.length→G2[r]?=some (.cells (runC vs os rs (.lst (es.map .i) es.length 1) V L') (st+1))→Stk b G2 L' 2 s.length (lpC s)→K (.i i) G2):CallL Tryz.prog (.fn 69) [.ptr r 0,.i i] G K:=by
 refine call_body r_denote_run_end k_denote_run_end (by simp) ?_
 simp[c_denote_run_end,hr,runC]
 refine hst.lenL ?_
 simp
 refine⟨by omega,hst.ixw (by omega) (by omega) fun p ver R m st' hb hg hR hRl hput=>?_⟩
 have hlast:R[s.length * 2+1]?=some (.u (UInt64.ofNat l)):=by rw[hR _ (by omega)]; exact lpC_at _ _
 have hsub:subU (UInt64.ofNat l) 1=UInt64.ofNat (l - 1):=by
  rw[subU_eq]
  apply UInt64.toNat_inj.1
  rw[UInt64.toNat_sub_of_le _ _ (by rw[UInt64.le_iff_toNat_le,UInt64.toNat_ofNat']; show 1≤_; omega),UInt64.toNat_ofNat',UInt64.toNat_ofNat']
  show l % 2 ^ 64 - 1=(l - 1) % 2 ^ 64
  omega
 have hpl:p < G.length:=(List.getElem?_eq_some_iff.1 hg).1
 have set1:layLV R (s.length * 2+1) [.u (UInt64.ofNat (l - 1))]=R.set (s.length * 2+1) (.u (UInt64.ofNat (l - 1))):=lay1 _ _ _ (by omega)
 have get1:(R.set (s.length * 2+1) (.u (UInt64.ofNat (l - 1))))[s.length * 2+1]?=some (.u (UInt64.ofNat (l - 1))):=List.getElem?_set_self (by omega)
 have sp:∀ x,(G.set p x)[p]?=some x:=fun x=>List.getElem?_set_self hpl
 have sr:∀ x,(G.set p x)[r]?=some _:=fun x=>by rw[List.getElem?_set_ne (by omega)]; exact hr
 have hput:=hput (s.length * 2+1) (.u (UInt64.ofNat (l - 1))) (st'+1)
 rw[lpC_set] at hput
 have htest:(0:UInt64) < UInt64.ofNat (l - 1)↔1 < l:=by
  rw[UInt64.lt_iff_toNat_lt,UInt64.toNat_ofNat']
  show 0 < (l - 1) % 2 ^ 64↔1 < l
  omega
 have qe:(es.map LV.i)[i]?=some (.i (gd es i)):=map_at (at_getD hi)
 have hRl2:s.length * 2+1 < R.length:=by omega
 by_cases h1:1 < l
 ·have ht:(0:UInt64) < UInt64.ofNat (l - 1):=htest.2 h1
  simp[hg,nthL_at hlast,hsub,hRl2,set1,↓sp,nthL_at get1,ht,↓sr,runC,hi,nthL_at qe]
  exact⟨by omega,k1 h1 _ (fun q hq=>List.getElem?_set_ne (by omega)) (by simpa using hbl) hput⟩
 ·have ht:¬ (0:UInt64) < UInt64.ofNat (l - 1):=fun h=>h1 (htest.1 h)
  simp[hg,nthL_at hlast,hsub,hRl2,set1,↓sp,nthL_at get1,ht,↓sr,runC]
  refine⟨by omega,hput.lenL ?_⟩
  simp
  refine⟨by omega,hput.cut (m:=s.length) (by omega) (fun K' k'=>k') (fun d K' k'=>⟨by omega,by simpa using k'⟩) fun v' hs'=>?_⟩
  rw[lpC_take] at hs'
  simp[-LV.cells,hs'.cells,↓sr,runC]
  have hGl:r < (G.set p (.dyn (R.set (s.length * 2+1) (.u (UInt64.ofNat (l - 1)))) m 2 ver (st'+1))).length:=by simp; omega
  exact k2 h1 _ v' (fun q hq hqr=>by rw[List.getElem?_set_ne (Ne.symm hqr),List.getElem?_set_ne (by omega)]) (by simpa using hbl) (List.getElem?_set_self hGl) (hs'.set_lt hrb)
end Go.Proofs.YtnbnhnjffiagmaaGreat
