/- Kernels' meaning: what is needed, whether it holds. -/
import Derived.Test.YtnbnhnjffiagmaaGreatFnNa
import Derived.Test.YtnbnhnjffiagmaaGreatSvG3
namespace Go.Proofs.YtnbnhnjffiagmaaGreat
open Go.Sv
set_option linter.unusedSimpArgs false
set_option maxRecDepth 10000
def c_denote_alone:LC:=(.seq (.ops [.z 4 (.alloc [(.i 0),(.i 0),(.i 0)])]) (.seq (.ops [.m 5 0,.m 6 1,.z 7 (.build [(.i 0),(.i 0),(.i 0)] [(0,1,.t 5),(1,1,.t 6),(2,1,.c (.i (-1)))]),⟨none,none,.store 3 (.t 4) (.t 7)⟩]) .ret))
theorem r_denote_alone:resFn Tryz.prog 43=some ⟨8,c_denote_alone.r,[.cellN 4 3]⟩:=by kernel_rfl
theorem k_denote_alone:c_denote_alone.ok=true:=by kernel_rfl
def c_denote_less:LC:=(.seq (.ops [.z 4 (.alloc [(.i 0),(.i 0),(.i 0)])]) (.seq (.ops [.m 5 0,.m 6 1,.z 7 (.build [(.i 0),(.i 0),(.i 0)] [(0,1,.c (.i 2)),(1,1,.t 5),(2,1,.t 6)]),⟨none,none,.store 3 (.t 4) (.t 7)⟩]) .ret))
theorem r_denote_less:resFn Tryz.prog 44=some ⟨8,c_denote_less.r,[.cellN 4 3]⟩:=by kernel_rfl
theorem k_denote_less:c_denote_less.ok=true:=by kernel_rfl
def c_denote_Needs:LC:=(.seq (.ops [.z 1 (.box (.t 0)),.z 2 (.move (.c .nilSl))]) (.seq (.seq (.ops [.f 3 0 1,.l 4 3]) (.block 0 (.seq (.ops [.z 6 (.bin .eql true 3 (.t 4) (.c (.i 9))),.m 5 6]) (.cond (.t 5) (.seq (.ops [.f 7 5 1,.l 8 7,.z 9 (.callV (.c (.fn (.func 43) [] [])) [(.c (.i 3)),.t 8]),.z 10 (.buildSl 3 1 [(.i 0),(.i 0),(.i 0)] [(0,3,.t 9)]),.m 2 10]) .ret) (.seq (.seq (.ops [.z 12 (.bin .eql true 3 (.t 4) (.c (.i 10))),.m 11 12]) (.cond (.t 11) .skip (.ops [.z 13 (.bin .eql true 3 (.t 4) (.c (.i 11))),.m 11 13]))) (.cond (.t 11) (.seq (.draw [(.f 14 3 1,[]),(.l 15 14,[]),(.f 16 5 1,[]),(.l 17 16,[]),(.f 19 4 1,[]),(.l 20 19,[]),(.f 21 5 1,[]),(.l 22 21,[]),(.z 18 (.callV (.c (.fn (.func 44) [] [])) [.t 15,.t 17]),[(.l 22 21,false),(.l 20 19,false)]),(.z 23 (.callV (.c (.fn (.func 44) [] [])) [.t 20,.t 22]),[]),(.z 24 (.buildSl 3 2 [(.i 0),(.i 0),(.i 0),(.i 0),(.i 0),(.i 0)] [(0,3,.t 18),(3,3,.t 23)]),[]),(.m 2 24,[])]) .ret) (.seq (.ops [.z 26 (.bin .eql true 3 (.t 4) (.c (.i 12))),.m 25 26]) (.cond (.t 25) (.seq (.draw [(.f 27 5 1,[]),(.l 28 27,[]),(.f 30 3 1,[]),(.l 31 30,[]),(.f 32 5 1,[]),(.l 33 32,[]),(.f 35 4 1,[]),(.l 36 35,[]),(.f 37 5 1,[]),(.l 38 37,[]),(.z 29 (.callV (.c (.fn (.func 43) [] [])) [(.c (.i 1)),.t 28]),[(.l 38 37,false),(.l 36 35,false),(.l 33 32,false),(.l 31 30,false)]),(.z 34 (.callV (.c (.fn (.func 44) [] [])) [.t 31,.t 33]),[(.l 38 37,false),(.l 36 35,false)]),(.z 39 (.callV (.c (.fn (.func 44) [] [])) [.t 36,.t 38]),[]),(.z 40 (.buildSl 3 3 [(.i 0),(.i 0),(.i 0),(.i 0),(.i 0),(.i 0),(.i 0),(.i 0),(.i 0)] [(0,3,.t 29),(3,3,.t 34),(6,3,.t 39)]),[]),(.m 2 40,[])]) .ret) (.seq (.ops [.z 42 (.bin .eql true 3 (.t 4) (.c (.i 13))),.m 41 42]) (.cond (.t 41) (.seq (.draw [(.f 43 5 1,[]),(.l 44 43,[]),(.f 46 3 1,[]),(.l 47 46,[]),(.f 48 5 1,[]),(.l 49 48,[]),(.z 45 (.callV (.c (.fn (.func 43) [] [])) [(.c (.i 1)),.t 44]),[(.l 49 48,false),(.l 47 46,false)]),(.z 50 (.callV (.c (.fn (.func 44) [] [])) [.t 47,.t 49]),[]),(.z 51 (.buildSl 3 2 [(.i 0),(.i 0),(.i 0),(.i 0),(.i 0),(.i 0)] [(0,3,.t 45),(3,3,.t 50)]),[]),(.m 2 51,[])]) .ret) (.seq (.ops [.z 53 (.bin .eql true 3 (.t 4) (.c (.i 17))),.m 52 53]) (.cond (.t 52) (.seq (.ops [.f 54 6 1,.l 55 54]) (.block 1 (.seq (.ops [.z 57 (.bin .eql true 28 (.t 55) (.c (.u 2))),.m 56 57]) (.cond (.t 56) (.seq (.ops [.f 58 3 1,.l 59 58,.f 60 4 1,.l 61 60,.z 62 (.callV (.c (.fn (.func 44) [] [])) [.t 59,.t 61]),.z 63 (.buildSl 3 1 [(.i 0),(.i 0),(.i 0)] [(0,3,.t 62)]),.m 2 63]) .ret) (.seq (.seq (.ops [.z 65 (.bin .eql true 28 (.t 55) (.c (.u 1))),.m 64 65]) (.cond (.t 64) .skip (.ops [.z 66 (.bin .eql true 28 (.t 55) (.c (.u 3))),.m 64 66]))) (.cond (.t 64) (.seq (.ops [.f 67 6 1,.l 68 67,.z 69 (.cvInt .i64 (.t 68)),.f 70 3 1,.l 71 70,.z 72 (.callV (.c (.fn (.func 43) [] [])) [.t 69,.t 71]),.z 73 (.buildSl 3 1 [(.i 0),(.i 0),(.i 0)] [(0,3,.t 72)]),.m 2 73]) .ret) .skip)))))) .skip)))))))))))) (.seq (.ops [.z 2 (.move (.c .nilSl))]) .ret)))
theorem r_denote_Needs:resFn Tryz.prog 15=some ⟨74,c_denote_Needs.r,[.tmp 2]⟩:=by kernel_rfl
theorem k_denote_Needs:c_denote_Needs.ok=true:=by kernel_rfl
def c_denote_Holds_1:LC:=(.seq (.ops [.z 3 (.move (.c (.bool false)))]) (.seq (.ops [.m 4 0,.z 5 (.bin .geq true 3 (.t 4) (.c (.i 0))),.m 6 5,⟨some 7,(some (6,true)),.move (.t 0)⟩,⟨some 8,(some (6,true)),.load1 (.t 1)⟩,⟨some 9,(some (6,true)),.lenSl (.t 8)⟩,⟨some 10,(some (6,true)),.bin .lss false 3 (.t 7) (.t 9)⟩,.z 11 (.pick (.t 6) (.t 10) (.c (.bool false))),.m 3 11]) .ret))
theorem r_denote_Holds_1:resFn Tryz.prog 50=some ⟨12,c_denote_Holds_1.r,[.tmp 3]⟩:=by kernel_rfl
theorem k_denote_Holds_1:c_denote_Holds_1.ok=true:=by kernel_rfl
def c_denote_Holds:LC:=(.seq (.ops [.z 2 (.box (.t 0)),.z 3 (.box (.t 1)),.z 4 (.move (.c (.bool false)))]) (.seq (.ops [.z 6 (.mkFunc 50 [] [.t 3]),.m 5 6]) (.seq (.seq (.ops [.m 7 5,.f 8 1 2,.l 9 8,.z 10 (.callV (.t 7) [.t 9]),.z 11 (.un .not (.t 10))]) (.cond (.t 11) (.seq (.ops [.z 4 (.move (.c (.bool false)))]) .ret) .skip)) (.seq (.seq (.ops [.f 12 0 2,.l 13 12]) (.block 0 (.seq (.ops [.z 15 (.bin .eql true 3 (.t 13) (.c (.i 1))),.m 14 15]) (.cond (.t 14) (.seq (.ops [.l 16 3,.f 17 1 2,.l 18 17,.z 19 (.ixAddr 1 (.t 16) (.t 18)),.l 20 19,.z 21 (.callV (.c (.fn (.func 51) [] [])) [.t 20,.c (.i 0)]),.m 4 21]) .ret) (.seq (.ops [.z 23 (.bin .eql true 3 (.t 13) (.c (.i 3))),.m 22 23]) (.cond (.t 22) (.seq (.ops [.l 24 3,.f 25 1 2,.l 26 25,.z 27 (.ixAddr 1 (.t 24) (.t 26)),.l 28 27,.z 29 (.callV (.c (.fn (.func 52) [] [])) [.t 28]),.z 30 (.bin .gtr true 3 (.t 29) (.c (.i 0))),.m 4 30]) .ret) (.seq (.ops [.z 32 (.bin .eql true 3 (.t 13) (.c (.i 2))),.m 31 32]) (.cond (.t 31) (.seq (.draw [(.m 33 5,[]),(.f 34 2 2,[]),(.l 35 34,[]),(.z 36 (.callV (.t 33) [.t 35]),[]),(.m 37 36,[]),(⟨some 38,(some (37,true)),.load1 (.t 3)⟩,[]),(⟨some 39,(some (37,true)),.fieldAddr 1 (.t 2)⟩,[]),(⟨some 40,(some (37,true)),.load1 (.t 39)⟩,[]),(⟨some 41,(some (37,true)),.ixAddr 1 (.t 38) (.t 40)⟩,[]),(⟨some 42,(some (37,true)),.load1 (.t 41)⟩,[]),(⟨some 43,(some (37,true)),.load1 (.t 3)⟩,[]),(⟨some 44,(some (37,true)),.fieldAddr 2 (.t 2)⟩,[]),(⟨some 45,(some (37,true)),.load1 (.t 44)⟩,[]),(⟨some 46,(some (37,true)),.ixAddr 1 (.t 43) (.t 45)⟩,[]),(⟨some 47,(some (37,true)),.load1 (.t 46)⟩,[]),(⟨some 48,(some (37,true)),.callV (.c (.fn (.func 53) [] [])) [.t 42,.t 47]⟩,[]),(⟨some 49,(some (37,true)),.bin .lss true 3 (.t 48) (.c (.i 0))⟩,[]),(.z 50 (.pick (.t 37) (.t 49) (.c (.bool false))),[]),(.m 4 50,[])]) .ret) .skip)))))))) (.seq (.ops [.z 4 (.move (.c (.bool false)))]) .ret)))))
theorem r_denote_Holds:resFn Tryz.prog 19=some ⟨51,c_denote_Holds.r,[.tmp 4]⟩:=by kernel_rfl
theorem k_denote_Holds:c_denote_Holds.ok=true:=by kernel_rfl
def c_slices_IndexFunc_api_Fact_api_Fact:LC:=(.seq (.ops [.z 4 (.move (.c (.i 0)))]) (.seq (.seq (.ops [.m 6 0,.z 7 (.lenSl (.t 6)),.z 8 (.move (.c (.i 0)))]) (.block 0 (.loop (.seq (.ops [.z 9 (.bin .lss false 3 (.t 8) (.t 7))]) (.seq (.cond (.t 9) .skip (.exit 0)) (.seq (.block 1 (.seq (.ops [.m 10 8,.m 5 10]) (.seq (.ops [.m 11 1,.m 12 0,.m 13 5,.z 14 (.ixAddr 3 (.t 12) (.t 13)),.z 15 (.loadN 3 (.t 14)),.z 16 (.callV (.t 11) [.t 15])]) (.cond (.t 16) (.seq (.ops [.m 17 5,.m 4 17]) .ret) .skip)))) (.ops [.z 18 (.bin .add true 3 (.t 8) (.c (.i 1))),.m 8 18]))))))) (.seq (.ops [.z 4 (.move (.c (.i (-1))))]) .ret)))
theorem r_slices_IndexFunc_api_Fact_api_Fact:resFn Tryz.prog 127=some ⟨19,c_slices_IndexFunc_api_Fact_api_Fact.r,[.tmp 4]⟩:=by kernel_rfl
theorem k_slices_IndexFunc_api_Fact_api_Fact:c_slices_IndexFunc_api_Fact_api_Fact.ok=true:=by kernel_rfl
def c_slices_ContainsFunc_api_Fact_api_Fact:LC:=(.seq (.ops [.z 4 (.move (.c (.bool false)))]) (.seq (.ops [.m 5 0,.m 6 1,.z 7 (.callV (.c (.fn (.func 127) [] [])) [.t 5,.t 6]),.z 8 (.bin .geq true 3 (.t 7) (.c (.i 0))),.m 4 8]) .ret))
theorem r_slices_ContainsFunc_api_Fact_api_Fact:resFn Tryz.prog 84=some ⟨9,c_slices_ContainsFunc_api_Fact_api_Fact.r,[.tmp 4]⟩:=by kernel_rfl
theorem k_slices_ContainsFunc_api_Fact_api_Fact:c_slices_ContainsFunc_api_Fact_api_Fact.ok=true:=by kernel_rfl
def c_denote_run_holds_1:LC:=(.seq (.ops [.z 2 (.box (.t 0)),.z 3 (.move (.c (.bool false)))]) (.seq (.draw [(.z 4 (.loadN 3 (.t 2)),[]),(.l 5 1,[]),(.z 6 (.nilChk (.t 5)),[]),(.f 7 4 6,[]),(.l 8 7,[]),(.z 9 (.callV (.c (.fn (.func 19) [] [])) [.t 4,.t 8]),[]),(.z 10 (.un .not (.t 9)),[]),(.m 3 10,[])]) .ret))
theorem r_denote_run_holds_1:resFn Tryz.prog 85=some ⟨11,c_denote_run_holds_1.r,[.tmp 3]⟩:=by kernel_rfl
theorem k_denote_run_holds_1:c_denote_run_holds_1.ok=true:=by kernel_rfl
def c_denote_run_holds:LC:=(.seq (.ops [.z 2 (.box (.t 0)),.z 3 (.box (.t 1)),.z 4 (.move (.c (.bool false)))]) (.seq (.ops [.z 5 (.loadN 7 (.t 3)),.z 6 (.callV (.c (.fn (.func 15) [] [])) [.t 5]),.z 7 (.mkFunc 85 [] [.t 2]),.z 8 (.callV (.c (.fn (.func 84) [] [])) [.t 6,.t 7]),.z 9 (.un .not (.t 8)),.m 4 9]) .ret))
theorem r_denote_run_holds:resFn Tryz.prog 49=some ⟨10,c_denote_run_holds.r,[.tmp 4]⟩:=by kernel_rfl
theorem k_denote_run_holds:c_denote_run_holds.ok=true:=by kernel_rfl
theorem alone_ok (k a:Int):FnS Tryz.prog 43 [.i k,.i a] (.agg [.i k,.i a,.i (-1)]) []:=by
 refine FnS.val rfl (call_body r_denote_alone k_denote_alone (by simp) ?_)
 simp[c_denote_alone]
theorem less_ok (a b:Int):FnS Tryz.prog 44 [.i a,.i b] (.agg [.i 2,.i a,.i b]) []:=by
 refine FnS.val rfl (call_body r_denote_less k_denote_less (by simp) ?_)
 simp[c_denote_less]
theorem Needs_ok (o:Ko):FnV Tryz.prog 15 [.agg o.f] (.lst (fcC (needsL o)) (needsL o).length 3):=by
 refine FnV.mk (by simp[LV.dat,fcC_dats]) (call_body r_denote_Needs k_denote_Needs (by simp) ?_)
 by_cases k9:o.kind=9
 ·simp[c_denote_Needs,Ko.f,k9]
  refine CallL_F (alone_ok 3 o.c) (bors_self _ rfl) ?_
  simp[needsL,k9,fcC,fcF,borR,bor,dats,LV.dat]
 by_cases k10:o.kind=10∨o.kind=11
 ·rcases k10 with k | k
  all_goals
   simp[c_denote_Needs,Ko.f,k]
   refine CallL_F (less_ok o.a o.c) (bors_self _ rfl) ?_
   simp
   refine CallL_F (less_ok o.b o.c) (bors_self _ rfl) ?_
   simp[needsL,k,fcC,fcF,borR,bor,dats,LV.dat]
 by_cases k12:o.kind=12
 ·simp[c_denote_Needs,Ko.f,k12]
  refine CallL_F (alone_ok 1 o.c) (bors_self _ rfl) ?_
  simp
  refine CallL_F (less_ok o.a o.c) (bors_self _ rfl) ?_
  simp
  refine CallL_F (less_ok o.b o.c) (bors_self _ rfl) ?_
  simp[needsL,k12,fcC,fcF,borR,bor,dats,LV.dat]
 by_cases k13:o.kind=13
 ·simp[c_denote_Needs,Ko.f,k13]
  refine CallL_F (alone_ok 1 o.c) (bors_self _ rfl) ?_
  simp
  refine CallL_F (less_ok o.a o.c) (bors_self _ rfl) ?_
  simp[needsL,k13,fcC,fcF,borR,bor,dats,LV.dat]
 have k10':¬ o.kind=10:=fun h=>k10 (.inl h)
 have k11':¬ o.kind=11:=fun h=>k10 (.inr h)
 by_cases k17:o.kind=17
 ·by_cases i2:o.imm=2
  ·simp[c_denote_Needs,Ko.f,k17,i2]
   refine CallL_F (less_ok o.a o.b) (bors_self _ rfl) ?_
   simp[needsL,k17,i2,fcC,fcF,borR,bor,dats,LV.dat]
  by_cases i1:o.imm=1
  ·simp[c_denote_Needs,Ko.f,k17,i1]
   refine CallL_F (alone_ok 1 o.a) (bors_self _ rfl) ?_
   simp[needsL,k17,i1,fcC,fcF,borR,bor,dats,LV.dat]
  by_cases i3:o.imm=3
  ·simp[c_denote_Needs,Ko.f,k17,i3]
   refine CallL_F (alone_ok 3 o.a) (bors_self _ rfl) ?_
   simp[needsL,k17,i3,fcC,fcF,borR,bor,dats,LV.dat]
  ·simp[c_denote_Needs,Ko.f,k17,i1,i2,i3,needsL,fcC,borR,bor]
 ·simp[c_denote_Needs,Ko.f,k9,k10',k11',k12,k13,k17,needsL,fcC,borR,bor]
theorem Holds_1_any {G:LHeap} {p st:Nat} {v:List Nat} {x:Int} {K:LV→LHeap→Prop} (hp:G[p]?=some (.cells [.lst (vaC v) v.length 1] st)) (k:K (.bool (thereB v.length x)) G):CallL Tryz.prog (.fn 50) [.i x,.ptr p 0] G K:=by
 refine call_body r_denote_Holds_1 k_denote_Holds_1 (by simp) ?_
 by_cases h:0≤x
 ·simp[c_denote_Holds_1,h,hp]
  simpa [thereB,h] using k
 ·simp[c_denote_Holds_1,h]
  simpa [thereB,h] using k
theorem Holds_ok (f:Fc) (v:List Nat) (hv:∀ i,(toL (v.getD i 0)).length≤512):FnS Tryz.prog 19 [.agg (fcF f),.lst (vaC v) v.length 1] (.bool (holdsB f v)) []:=by
 refine FnS.val rfl (call_body r_denote_Holds k_denote_Holds (by simp) ?_)
 obtain⟨k,a,b⟩:=f
 simp[c_denote_Holds,fcF]
 refine Holds_1_any (v:=v) (by simp; rfl) ?_
 by_cases ha:thereB v.length a=true
 case neg =>
  simp[ha,holdsB]
 obtain⟨n,rfl,hn⟩:∃ n:Nat,a=n∧n < v.length:=⟨a.toNat,by simp[thereB] at ha; omega,by simp[thereB] at ha; omega⟩
 have qa:=vaC_at hn
 have hva:=hv n
 have ga:gN v n=v.getD n 0:=by rw[gN_at (by omega)]; rfl
 obtain⟨x,hx⟩:∃ x,v.getD n 0=x:=⟨_,rfl⟩
 rw[hx] at qa hva ga
 simp[ha,holdsB,ga]
 by_cases k1:k=1
 ·simp[k1,hn,nthL_at qa]
  refine CallL_F (nat_Bit_ok (toL x) 0 (by omega)) (by simp) ?_
  simp[val_toL]
 by_cases k3:k=3
 ·simp[k1,k3,hn,nthL_at qa]
  refine CallL_F (nat_Bits_ok (toL x) (by omega)) (by simp) ?_
  simp[val_toL]
  have:=blen_pos x
  omega
 by_cases k2:k=2
 ·simp[k2]
  refine Holds_1_any (v:=v) (by simp; rfl) ?_
  by_cases hb:thereB v.length b=true
  case neg=>simp[hb]
  obtain⟨m,rfl,hm⟩:∃ m:Nat,b=m∧m < v.length:=⟨b.toNat,by simp[thereB] at hb; omega,by simp[thereB] at hb; omega⟩
  have qb:=vaC_at hm
  have hvb:=hv m
  have gb':gN v m=v.getD m 0:=by rw[gN_at (by omega)]; rfl
  obtain⟨y,hy⟩:∃ y,v.getD m 0=y:=⟨_,rfl⟩
  rw[hy] at qb hvb gb'
  simp[hb,hn,hm,nthL_at qa,nthL_at qb,gb']
  refine CallL_F (nat_Compare_ok (toL x) (toL y) (by omega) (by omega)) (by simp) ?_
  simp[val_toL,cmpN_lt]
 ·simp[k1,k2,k3]
theorem IndexFacts_any {G:LHeap} {l:List Fc} {f:Nat} {a b:List LV} {p:Fc→Bool} {I:LHeap→Prop} {K:LV→LHeap→Prop} (hl:l.length≤1000) (h0:I G)
  (hf:∀ G1,I G1→∀ v∈l,∀ K':LV→LHeap→Prop,(∀ G2,I G2→K' (.bool (p v)) G2)→CallL Tryz.prog (.fn f) (a++[.agg (fcF v)]++b) G1 K')
  (k:∀ (r:Int) G2,I G2→decide (0≤r)=l.any p→K (.i r) G2):CallL Tryz.prog (.fn 127) [.lst (fcC l) l.length 3,.fn (.func f) a b] G K:=by
 refine call_body r_slices_IndexFunc_api_Fact_api_Fact k_slices_IndexFunc_api_Fact_api_Fact (by simp) ?_
 simp[c_slices_IndexFunc_api_Fact_api_Fact]
 refine loop_nx (fun ρ D G' N=>∃ i:Nat,D=[]∧I G'∧N+i=l.length∧lk ρ 0=.lst (fcC l) l.length 3∧lk ρ 1=.fn (.func f) a b∧lk ρ 7=.i l.length∧lk ρ 8=.i i∧(l.take i).any p=false) (N:=l.length) ⟨0,by simp[h0]⟩ ?_
 rintro N ρ D G' ⟨i,rfl,hI,hN,h0,h1,h7,h8,hn⟩ Nx hNx
 by_cases g:i < l.length
 ·have q3:=fc_three g
  have hqq:=fc_lt g
  have hh:=hf G' hI l[i] (List.getElem_mem g)
  have hf3:fcF l[i]=[.i l[i].1,.i l[i].2.1,.i l[i].2.2]:=rfl
  have hnx:(l.take (i+1)).any p=p l[i]:=by
   rw[List.take_succ_eq_append_getElem g,List.any_append,hn]; simp
  simp[h0,h1,h7,h8,g,q3,hqq,hf3]
  rw[←hf3]
  simp only[List.append_assoc,List.singleton_append] at hh
  refine hh _ fun G2 hI2=>?_
  cases hb:p l[i] with
  | true =>
   simp
   refine k _ _ hI2 ?_
   have:l.any p=true:=List.any_eq_true.2 ⟨_,List.getElem_mem g,hb⟩
   rw[this]; simp
  | false =>
   simp[h8]
   rw[hb] at hnx
   exact⟨by omega,hNx _ _ _ ⟨N - 1,by omega,i+1,rfl,hI2,by omega,by simp[h0],by simp[h1],by simp[h7],by simp,hnx⟩⟩
 ·rw[List.take_of_length_le (by omega)] at hn
  simp[h0,h1,h7,h8,g]
  exact k _ _ hI (by rw[hn]; decide)
theorem ContainsFacts_any {G:LHeap} {l:List Fc} {f:Nat} {a b:List LV} {p:Fc→Bool} {I:LHeap→Prop} {K:LV→LHeap→Prop} (hl:l.length≤1000) (h0:I G)
  (hf:∀ G1,I G1→∀ v∈l,∀ K':LV→LHeap→Prop,(∀ G2,I G2→K' (.bool (p v)) G2)→CallL Tryz.prog (.fn f) (a++[.agg (fcF v)]++b) G1 K')
  (k:∀ G2,I G2→K (.bool (l.any p)) G2):CallL Tryz.prog (.fn 84) [.lst (fcC l) l.length 3,.fn (.func f) a b] G K:=by
 refine call_body r_slices_ContainsFunc_api_Fact_api_Fact k_slices_ContainsFunc_api_Fact_api_Fact (by simp) ?_
 simp[c_slices_ContainsFunc_api_Fact_api_Fact]
 refine IndexFacts_any (p:=p) hl h0 hf fun r G2 hI e=>?_
 simp
 rw[e]
 exact k G2 hI
def Keep (G G2:LHeap):Prop:=G.length≤G2.length∧∀ q,q < G.length→G2[q]?=G[q]?
theorem Keep.refl (G:LHeap):Keep G G:=⟨Nat.le_refl _,fun _ _=>rfl⟩
theorem Keep.app {G G2:LHeap} (h:Keep G G2) (x:LHeap):Keep G (G2++x):=⟨by have:=h.1; simp; omega,fun q hq=>by rw[old1 (by have:=h.1; omega)]; exact h.2 q hq⟩
theorem Keep.at {G G2:LHeap} (h:Keep G G2) {q:Nat} {ob:LObj} (hq:G[q]?=some ob):G2[q]?=some ob:=by rw[h.2 q (List.getElem?_eq_some_iff.1 hq).1]; exact hq
theorem Keep.trans {G G2 G3:LHeap} (h:Keep G G2) (h':Keep G2 G3):Keep G G3:=⟨Nat.le_trans h.1 h'.1,fun q hq=>by rw[h'.2 q (by have:=h.1; omega),h.2 q hq]⟩
theorem Keep.pre {G G2 x:LHeap} (h:Keep (G++x) G2):Keep G G2:=⟨by have:=h.1; simp at this; omega,fun q hq=>by rw[h.2 q (by simp; omega),old1 hq]⟩
theorem holds_any {G:LHeap} {r p st st':Nat} {vs:List Vr} {os rs:List Ko} {E L:LV} {v:List Nat} {o:Ko} {K:LV→LHeap→Prop} (hr:G[r]?=some (.cells (runC vs os rs E (.dy p 0) L) st)) (hp:G[p]?=some (.dyn (vaC v) v.length 1 0 st')) (hv:∀ i,(toL (v.getD i 0)).length≤512)
  (k:∀ G2,Keep G G2→K (.bool (metB o v)) G2):CallL Tryz.prog (.fn 49) [.ptr r 0,.agg o.f] G K:=by
 have hrl:r < G.length:=(List.getElem?_eq_some_iff.1 hr).1
 have hpl:p < G.length:=(List.getElem?_eq_some_iff.1 hp).1
 have hf7:o.f=[.i o.kind,.i o.d,.i o.e,.i o.a,.i o.b,.i o.c,.u o.imm]:=rfl
 refine call_body r_denote_run_holds k_denote_run_holds (by simp) ?_
 simp[c_denote_run_holds,hf7]
 rw[←hf7]
 refine CallL_V (Needs_ok o) (by simp[dats,LV.dat,hf7]) ?_
 simp
 refine ContainsFacts_any (p:=fun f=>!holdsB f v) (I:=fun G2=>Keep (G++[.cells [.ptr r 0] 0]) G2) (by have:=needs_len o; omega) (by have h:=(Keep.refl (G++[.cells [.ptr r 0] 0])).app [.cells o.f 0]; simpa using h) (fun G1 h1 f hf K' k'=>?_) fun G2 h2=>?_
 ·have hc:G1[G.length]?=some (.cells [.ptr r 0] 0):=h1.at (by simp)
  have hr1:G1[r]?=some (.cells (runC vs os rs E (.dy p 0) L) st):=h1.pre.at hr
  have hp1:G1[p]?=some (.dyn (vaC v) v.length 1 0 st'):=h1.pre.at hp
  have l0:G.length < G1.length:=(List.getElem?_eq_some_iff.1 hc).1
  have l1:r < G1.length:=by omega
  have l2:p < G1.length:=by omega
  have hf3:fcF f=[.i f.1,.i f.2.1,.i f.2.2]:=rfl
  refine call_body r_denote_run_holds_1 k_denote_run_holds_1 (by simp) ?_
  simp[c_denote_run_holds_1,hf3,↓old1 l0,hc,↓old1 l1,hr1,runC]
  rw[←hf3]
  refine CallL_F (Holds_ok f v hv) ⟨_,_,rfl,⟨_,rfl,bors_self _ rfl⟩,_,_,rfl,⟨_,_,_,st',rfl,by rw[old1 l2]; exact hp1,vaC_dats v⟩,rfl⟩ ?_
  simp
  exact k' _ (h1.app _)
 ·simp
  rw[not_any_not]
  exact k _ h2.pre
end Go.Proofs.YtnbnhnjffiagmaaGreat
