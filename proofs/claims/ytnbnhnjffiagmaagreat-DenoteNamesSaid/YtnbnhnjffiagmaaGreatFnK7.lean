/- Kernels: where loops end, what is handed in, what comes out. -/
import Derived.Test.YtnbnhnjffiagmaaGreatFnK6
import Derived.Test.YtnbnhnjffiagmaaGreatSvG3

namespace Go.Proofs.YtnbnhnjffiagmaaGreat
open Go.Sv
set_option linter.unusedSimpArgs false
set_option maxRecDepth 10000
def c_math_bits_Mul:LC:=(.seq (.ops [.z 4 (.move (.c (.u 0))),.z 5 (.move (.c (.u 0)))]) (.seq (.cond (.c (.bool false)) (.seq (.ops [.m 11 0,.z 12 (.cvInt .u32 (.t 11)),.m 13 1,.z 14 (.cvInt .u32 (.t 13)),.z 15 (.callV (.c (.fn (.func 153) [] [])) [.t 12,.t 14]),.m 10 15,.z 16 (.extract 0 (.t 10)),.z 17 (.extract 1 (.t 10)),.m 6 16,.m 7 17]) (.seq (.ops [.m 18 6,.z 19 (.cvInt .u64 (.t 18)),.m 20 7,.z 21 (.cvInt .u64 (.t 20)),.m 4 19,.m 5 21]) .ret)) .skip) (.seq (.ops [.m 23 0,.m 24 1,.z 25 (.callV (.c (.fn (.func 154) [] [])) [.t 23,.t 24]),.m 22 25,.z 26 (.extract 0 (.t 22)),.z 27 (.extract 1 (.t 22)),.m 8 26,.m 9 27]) (.seq (.ops [.m 28 8,.m 29 9,.m 4 28,.m 5 29]) .ret))))
theorem r_math_bits_Mul:resFn Tryz.prog 126=some ⟨30,c_math_bits_Mul.r,[.tmp 4,.tmp 5]⟩:=by kernel_rfl
theorem k_math_bits_Mul:c_math_bits_Mul.ok=true:=by kernel_rfl
def c_math_bits_Mul64:LC:=(.seq (.ops [.z 4 (.move (.c (.u 0))),.z 5 (.move (.c (.u 0)))]) (.seq (.ops [.m 14 0,.z 15 (.bin .and true 28 (.t 14) (.c (.u 4294967295))),.m 6 15]) (.seq (.ops [.m 16 0,.z 17 (.bin .shr true 28 (.t 16) (.c (.u 32))),.m 7 17]) (.seq (.ops [.m 18 1,.z 19 (.bin .and true 28 (.t 18) (.c (.u 4294967295))),.m 8 19]) (.seq (.ops [.m 20 1,.z 21 (.bin .shr true 28 (.t 20) (.c (.u 32))),.m 9 21]) (.seq (.ops [.m 22 6,.m 23 8,.z 24 (.bin .mul false 28 (.t 22) (.t 23)),.m 10 24]) (.seq (.ops [.m 25 7,.m 26 8,.z 27 (.bin .mul false 28 (.t 25) (.t 26)),.m 28 10,.z 29 (.bin .shr true 28 (.t 28) (.c (.u 32))),.z 30 (.bin .add false 28 (.t 27) (.t 29)),.m 11 30]) (.seq (.ops [.m 31 11,.z 32 (.bin .and true 28 (.t 31) (.c (.u 4294967295))),.m 12 32]) (.seq (.ops [.m 33 11,.z 34 (.bin .shr true 28 (.t 33) (.c (.u 32))),.m 13 34]) (.seq (.ops [.m 35 12,.m 36 6,.m 37 9,.z 38 (.bin .mul false 28 (.t 36) (.t 37)),.z 39 (.bin .add false 28 (.t 35) (.t 38)),.m 12 39]) (.seq (.ops [.m 40 7,.m 41 9,.z 42 (.bin .mul false 28 (.t 40) (.t 41)),.m 43 13,.z 44 (.bin .add false 28 (.t 42) (.t 43)),.m 45 12,.z 46 (.bin .shr true 28 (.t 45) (.c (.u 32))),.z 47 (.bin .add false 28 (.t 44) (.t 46)),.m 4 47]) (.seq (.ops [.m 48 0,.m 49 1,.z 50 (.bin .mul false 28 (.t 48) (.t 49)),.m 5 50]) .ret))))))))))))
theorem r_math_bits_Mul64:resFn Tryz.prog 154=some ⟨51,c_math_bits_Mul64.r,[.tmp 4,.tmp 5]⟩:=by kernel_rfl
theorem k_math_bits_Mul64:c_math_bits_Mul64.ok=true:=by kernel_rfl
def c_slices_Repeat_int_int:LC:=(.seq (.ops [.z 4 (.move (.c .nilSl))]) (.seq (.seq (.ops [.m 9 1,.z 10 (.bin .lss true 3 (.t 9) (.c (.i 0)))]) (.cond (.t 10) .stuck .skip)) (.seq (.ops [.m 13 0,.z 14 (.lenSl (.t 13)),.z 15 (.cvInt .u64 (.t 14)),.m 16 1,.z 17 (.cvInt .u64 (.t 16)),.z 18 (.callV (.c (.fn (.func 126) [] [])) [.t 15,.t 17]),.m 12 18,.z 19 (.extract 0 (.t 12)),.z 20 (.extract 1 (.t 12)),.m 5 19,.m 6 20]) (.seq (.seq (.ops [.m 21 5,.z 22 (.bin .gtr true 113 (.t 21) (.c (.u 0))),.m 23 22,⟨some 24,(some (23,false)),.move (.t 6)⟩,⟨some 25,(some (23,false)),.bin .gtr true 113 (.t 24) (.c (.u 9223372036854775807))⟩,.z 26 (.pick (.t 23) (.c (.bool true)) (.t 25))]) (.cond (.t 26) .stuck .skip)) (.seq (.ops [.m 28 6,.z 29 (.cvInt .i64 (.t 28)),.z 30 (.mkSl 1 [(.i 0)] (.t 29) (.t 29)),.m 7 30]) (.seq (.ops [.m 31 7,.m 32 0,.z 33 (.copy 1 (.t 31) (.t 32)),.m 8 33]) (.seq (.block 0 (.loop (.seq (.seq (.ops [.m 34 8,.m 35 7,.z 36 (.lenSl (.t 35)),.z 37 (.bin .lss false 3 (.t 34) (.t 36))]) (.cond (.t 37) .skip (.exit 0))) (.block 1 (.draw [(.m 38 8,[]),(.m 39 7,[]),(.m 40 8,[]),(.z 41 (.slSl 1 (.t 39) (some (.t 40)) none),[]),(.m 42 7,[]),(.m 43 8,[]),(.z 44 (.slSl 1 (.t 42) none (some (.t 43))),[]),(.z 45 (.copy 1 (.t 41) (.t 44)),[]),(.z 46 (.bin .add false 3 (.t 38) (.t 45)),[]),(.m 8 46,[])]))))) (.seq (.ops [.m 47 7,.m 4 47]) .ret))))))))
theorem r_slices_Repeat_int_int:resFn Tryz.prog 82=some ⟨48,c_slices_Repeat_int_int.r,[.tmp 4]⟩:=by kernel_rfl
theorem k_slices_Repeat_int_int:c_slices_Repeat_int_int.ok=true:=by kernel_rfl
def c_lengths_Ends:LC:=(.seq (.ops [.z 1 (.box (.t 0)),.z 2 (.move (.c .nilSl))]) (.seq (.seq (.ops [.z 8 (.loadN 3 (.t 1)),.z 9 (.callV (.c (.fn (.func 45) [] [])) [.t 8]),.z 10 (.bin .neq true 32 (.t 9) (.c (.i 0)))]) (.cond (.t 10) (.seq (.ops [.z 2 (.move (.c .nilSl))]) .ret) .skip)) (.seq (.ops [.z 11 (.buildSl 1 1 [(.i 0)] [(0,1,.c (.i (-1)))]),.f 12 1 1,.l 13 12,.z 14 (.lenSl (.t 13)),.z 15 (.callV (.c (.fn (.func 82) [] [])) [.t 11,.t 14]),.m 3 15]) (.seq (.ops [.z 4 (.move (.c .nilSl))]) (.seq (.seq (.ops [.f 16 1 1,.l 17 16,.z 18 (.lenSl (.t 17)),.z 19 (.move (.c (.i 0)))]) (.block 0 (.loop (.seq (.ops [.z 20 (.bin .lss false 3 (.t 19) (.t 18))]) (.seq (.cond (.t 20) .skip (.exit 0)) (.seq (.block 1 (.seq (.ops [.m 21 19,.z 22 (.ixAddr 7 (.t 17) (.t 19)),.z 23 (.loadN 7 (.t 22)),.z 6 (.alloc [(.i 0),(.i 0),(.i 0),(.i 0),(.i 0),(.i 0),(.u 0)]),.m 5 21,⟨none,none,.store 7 (.t 6) (.t 23)⟩]) (.seq (.ops [.f 24 0 6,.l 25 24]) (.block 2 (.seq (.ops [.z 27 (.bin .eql true 3 (.t 25) (.c (.i 15))),.m 26 27]) (.cond (.t 26) (.ops [.m 28 4,.m 29 5,.z 30 (.buildSl 1 1 [(.i 0)] [(0,1,.t 29)]),.z 31 (.appG 1 (.t 28) (.t 30)),.m 4 31]) (.seq (.ops [.z 33 (.bin .eql true 3 (.t 25) (.c (.i 16))),.m 32 33]) (.cond (.t 32) (.seq (.ops [.m 34 4,.z 35 (.lenSl (.t 34)),.z 36 (.bin .sub true 3 (.t 35) (.c (.i 1))),.m 7 36]) (.seq (.draw [(.m 37 3,[]),(.m 38 5,[]),(.m 39 3,[]),(.m 40 4,[]),(.m 41 7,[]),(.z 42 (.ixAddr 1 (.t 40) (.t 41)),[]),(.l 43 42,[]),(.m 44 4,[]),(.m 45 7,[]),(.z 46 (.ixAddr 1 (.t 44) (.t 45)),[]),(.l 47 46,[]),(.m 48 5,[]),(.z 49 (.ixAddr 1 (.t 37) (.t 38)),[]),(⟨none,none,.store 1 (.t 49) (.t 47)⟩,[]),(.z 50 (.ixAddr 1 (.t 39) (.t 43)),[]),(⟨none,none,.store 1 (.t 50) (.t 48)⟩,[])]) (.ops [.m 51 4,.m 52 7,.z 53 (.slSl 1 (.t 51) none (some (.t 52))),.m 4 53]))) .skip)))))))) (.ops [.z 54 (.bin .add true 3 (.t 19) (.c (.i 1))),.m 19 54]))))))) (.seq (.ops [.m 55 3,.m 2 55]) .ret))))))
theorem r_lengths_Ends:resFn Tryz.prog 46=some ⟨56,c_lengths_Ends.r,[.tmp 2]⟩:=by kernel_rfl
theorem k_lengths_Ends:c_lengths_Ends.ok=true:=by kernel_rfl
theorem Mul64_ok (a b:UInt64):FnS Tryz.prog 154 [.u a,.u b] (.tup [.u (mulHi a b),.u (a * b)]) []:=by
 refine FnS.val rfl (call_body r_math_bits_Mul64 k_math_bits_Mul64 (by simp) ?_)
 simp[c_math_bits_Mul64]
 refine⟨?_,mulU_eq a b⟩
 rw[←mul_hi a b]
 simp only[addU_eq]
 ac_rfl
theorem Mul_ok (a b:UInt64):FnS Tryz.prog 126 [.u a,.u b] (.tup [.u (mulHi a b),.u (a * b)]) []:=by
 refine FnS.val rfl (call_body r_math_bits_Mul k_math_bits_Mul (by simp) ?_)
 simp[c_math_bits_Mul]
 refine CallL_F (Mul64_ok a b) (by simp) ?_
 simp
def mixR (x:Int) (n c:Nat):List LV:=(List.replicate c x++List.replicate (n - c) 0).map LV.i
theorem mixR_len (x:Int) {n c:Nat} (h:c≤n):(mixR x n c).length=n:=by simp[mixR]; omega
theorem mixR_lay (x:Int) {n c m:Nat} (hm:m≤c):layLV (mixR x n c) c (((mixR x n c).take c).take m)=mixR x n (c+m):=by
 have e1:(mixR x n c).take c=(List.replicate c x).map LV.i:=by
  unfold mixR
  rw[List.map_append,List.take_left' (by simp)]
 rw[e1,←List.map_take,List.take_replicate,Nat.min_eq_left hm]
 unfold layLV
 rw[e1]
 have e2:(mixR x n c).drop (c+((List.replicate m x).map LV.i).length)=(List.replicate (n - (c+m)) (0:Int)).map LV.i:=by
  unfold mixR
  rw[List.map_append,List.length_map,List.length_replicate,←List.drop_drop,List.drop_left' (by simp),←List.map_drop,List.drop_replicate]
  congr 2; omega
 rw[e2]
 unfold mixR
 rw[←List.map_append,←List.map_append,List.replicate_append_replicate]
theorem mixR_full (x:Int) (n:Nat):mixR x n n=(List.replicate n x).map LV.i:=by simp[mixR]
theorem mixR_one (x:Int) (n:Nat):List.take (min 1 n) [LV.i x]++List.drop (min 1 n) (repL [LV.i 0] n)=mixR x n (min 1 n):=by
 have e:∀ n,repL [LV.i 0] n=(List.replicate n (0:Int)).map LV.i:=by
  intro n
  induction n with
  | zero=>rfl
  | succ n ih=>simp[repL,ih,List.replicate_succ]
 rw[e]
 cases n with
 | zero=>simp[mixR]
 | succ n=>simp[mixR,show min 1 (n+1)=1 by omega,List.replicate_succ]
theorem Repeat_any {G:LHeap} {x:Int} {n q ver st:Nat} (hn:n≤1000000) (hq:G[q]?=some (.dyn [.i x] 1 1 ver st)) {K:LV→LHeap→Prop}
  (k:∀ G' p st',(∀ r,r < G.length→G'[r]?=G[r]?)→G.length≤p→G'[p]?=some (.dyn ((List.replicate n x).map .i) n 1 0 st')→K (.dy p 0) G'):CallL Tryz.prog (.fn 82) [.dy q ver,.i n] G K:=by
 refine call_body r_slices_Repeat_int_int k_slices_Repeat_int_int (by simp) ?_
 have hql:q < G.length:=(List.getElem?_eq_some_iff.1 hq).1
 have n0:¬ (n:Int) < 0:=by omega
 simp[c_slices_Repeat_int_int,hq,n0]
 have u1:(iU 1).toNat=1:=iU_nat (n:=1) (by omega)
 have un:(iU (n:Int)).toNat=n:=iU_nat (by omega)
 have hm0:mulHi (iU 1) (iU (n:Int))=0:=by
  apply UInt64.toNat_inj.1
  rw[mulHi,u1,un,UInt64.toNat_ofNat',show 1 * n / 18446744073709551616=0 by omega]; rfl
 have hm1:iU 1 * iU (n:Int)=iU (n:Int):=by
  apply UInt64.toNat_inj.1
  rw[UInt64.toNat_mul,u1,un]; omega
 have hlt:¬ 9223372036854775807 < iU (n:Int):=by
  rw[UInt64.lt_iff_toNat_lt,un]
  show ¬ 9223372036854775807 < n
  omega
 refine CallL_F (Mul_ok (iU 1) (iU (n:Int))) (by simp) ?_
 simp[hm0,hm1,hlt,un,↓old1 hql,hq]
 refine⟨by omega,by omega,?_⟩
 refine loop_nx (fun ρ D G' N=>∃ (c st':Nat),D=[]∧G'=G++[.dyn (mixR x n c) n 1 0 st']∧N+c=n∧(c=0→n=0)∧lk ρ 7=.dy G.length 0∧lk ρ 8=.i c) (N:=n - min 1 n) ⟨min 1 n,1,rfl,by rw[←mixR_one],by omega,by omega,by simp,by simp⟩ ?_
 rintro N ρ D G' ⟨c,st',rfl,rfl,hN,hc0,h7,h8⟩ Nx hNx
 by_cases g:c < n
 ·simp[h7,h8,g]
  have hml:=mixR_len x (n:=n) (c:=c) (by omega)
  have hlay:=mixR_lay x (n:=n) (c:=c) (m:=min c (n - c)) (by omega)
  repeat (refine⟨by omega,?_⟩)
  refine hNx _ _ _ ⟨N - min c (n - c),by omega,c+min c (n - c),st'+1,rfl,?_,by omega,by omega,by simp[h7],by simp⟩
  rw[←hlay]
 ·have:c=n:=by omega
  subst this
  simp[h7,h8]
  exact k _ _ st' (fun r hr=>old1 hr) (Nat.le_refl _) (by rw[←mixR_full]; simp)
theorem kdK_15 {o:Ko}:kdK o=1↔o.kind=15:=by unfold kdK; split <;> (try split) <;> simp_all
theorem kdK_16 {o:Ko}:kdK o=2↔o.kind=16:=by
 unfold kdK
 by_cases h:o.kind=15
 ·simp[h]
 ·by_cases h2:o.kind=16 <;> simp[h,h2]
def endsZ (vs:List Vr) (os rs:List Ko):List Int:=if chkB vs os rs=true then endsL kdK os else []
theorem lengths_Ends_ok (vs:List Vr) (os rs:List Ko) (hl1:vs.length≤9223372036854775807):FnV Tryz.prog 46 [.agg (kerC vs os rs)] (.lst ((endsZ vs os rs).map .i) (endsZ vs os rs).length 1):=by
 have di:∀ l:List Int,dats (l.map .i)=true:=fun l=>dats_map (fun _=>rfl) l
 have hkd:dats (kerC vs os rs)=true:=by simp[kerC,dats,LV.dat,vsC_dats,osC_dats]
 refine FnV.mk (by simp[LV.dat,di]) (call_body r_lengths_Ends k_lengths_Ends (by simp) ?_)
 have hk3:(kerC vs os rs).length=3:=rfl
 have hkt:(kerC vs os rs).take 3=kerC vs os rs:=rfl
 simp[c_lengths_Ends,hk3,hkt]
 refine CallL_F (lengths_Check_ok vs os rs hl1) (bors_self _ (by simp[dats,LV.dat,hkd])) ?_
 cases hc:chkB vs os rs with
 | false=>simp[chkE,hc,endsZ,borR,bor]
 | true =>
 have hos:os.length≤4096:=by
  unfold chkB at hc
  simp only[Bool.and_eq_true,decide_eq_true_eq] at hc
  exact hc.2.1
 simp[chkE,hc,kerC]
 refine Repeat_any (x:=-1) (st:=0) (by omega) (by simp) fun G' p st' hfr hp hG'=>?_
 have hp2:2≤p:=by simpa using hp
 have hG0:G'[0]?=some (.cells (kerC vs os rs) 0):=by rw[hfr 0 (by simp)]; rfl
 clear hfr hp
 have hpl:p < G'.length:=(List.getElem?_eq_some_iff.1 hG').1
 simp[hG0,kerC]
 obtain⟨hv,_,_,_,ht⟩:varsB vs=true∧True∧True∧True∧∃ m,ogo vs (startM vs) 0 os=some (m,0):=by
  have h:=hc
  unfold chkB at h
  simp only[Bool.and_eq_true] at h
  refine⟨h.1,trivial,trivial,trivial,?_⟩
  have h2:=h.2.2.2.2
  split at h2
  ·cases h2
  ·rename_i m dp he
   simp only[Bool.and_eq_true,decide_eq_true_eq] at h2
   rw[h2.2] at he
   exact⟨m,he⟩
 obtain⟨m0,ht⟩:=ht
 have hbal:bal kdK 0 os:=ogo_bal os (startM vs) m0 0 (by simpa using ht)
 have hez:endsZ vs os rs=endsL kdK os:=by simp[endsZ,hc]
 rw[hez]
 refine loop_nx (fun ρ D G N=>∃ (i:Nat) (st:List Nat) (out:List Int) (sv:LV) (s' b:Nat),D=[]∧N+i=os.length∧lk ρ 3=.dy p 0∧lk ρ 4=sv∧lk ρ 17=.lst (osC os) os.length 7∧lk ρ 18=.i os.length∧lk ρ 19=.i i∧0 < G.length∧p < b∧b≤G.length ∧
   G[0]?=some (.cells (kerC vs os rs) 0)∧G[p]?=some (.dyn (out.map .i) os.length 1 0 s')∧out.length=os.length∧Stk b G sv 1 st.length (st.reverse.map fun n:Nat=>.i n)∧st.length≤i∧(∀ a∈st,a < i)∧bal kdK st.length (os.drop i)∧endsG kdK i st out (os.drop i)=endsL kdK os) (N:=os.length)
  ⟨0,[],List.replicate os.length (-1),.nilSl,st',G'.length,rfl,by omega,by simp,by simp,by simp,by simp,by simp,by omega,by omega,Nat.le_refl _,hG0,by simpa using hG',by simp,Stk.nil,by simp,by simp,by simpa using hbal,by simp[endsL]⟩ ?_
 rintro N ρ D G ⟨i,st,out,sv,s',b,rfl,hN,h3,h4,h17,h18,h19,hl,hpb,hbl,hG0,hGp,hol,hst,hsl,hsa,hb,he⟩ Nx hNx
 by_cases g:i < os.length
 ·have q7:=os_seven (at_go g)
  have hqq:=os_lt g
  rw[drop_go g] at hb he
  have hf:(go os i).f=[.i (go os i).kind,.i (go os i).d,.i (go os i).e,.i (go os i).a,.i (go os i).b,.i (go os i).c,.u (go os i).imm]:=rfl
  generalize go os i=o at *
  unfold bal at hb
  unfold endsG at he
  have hpl:p < G.length:=by omega
  by_cases k15:o.kind=15
  ·rw[if_pos (kdK_15.2 k15)] at hb he
   simp[h3,h4,h17,h18,h19,g,q7,hqq,hf,k15]
   refine Stk.push hst.push_end (by omega) (by simp; omega) (by omega) rfl fun v' G2 hs2 hfr2 hb2=>?_
   simp[h19]
   refine⟨by omega,hNx _ _ _ ⟨N - 1,by omega,i+1,i::st,out,v',s',b,rfl,by omega,by simp[h3],by simp,by simp[h17],by simp[h18],by simp,by omega,hpb,hb2,?_,?_,hol,?_,by simp; omega,?_,by simpa using hb,he⟩⟩
   ·rw[hfr2 0 (by omega),old1 hl]; exact hG0
   ·rw[hfr2 p hpb,old1 hpl]; exact hGp
   ·rw[List.reverse_cons,List.map_append]; exact hs2
   ·intro a ha
    rcases List.mem_cons.1 ha with rfl | ha
    ·omega
    ·have:=hsa a ha; omega
  by_cases k16:o.kind=16
  ·rw[if_neg (fun h=>k15 (kdK_15.1 h)),if_pos (kdK_16.2 k16)] at hb he
   cases st with
   | nil=>exact absurd hb.1 (by simp)
   | cons a st =>
   have hal:=hsa a (List.mem_cons_self ..)
   simp only[List.length_cons,Nat.add_sub_cancel] at hb
   simp[h3,h4,h17,h18,h19,g,q7,hqq,hf,k15,k16]
   refine hst.push_end.lenL ?_
   have hc1:((a::st).length:Int) - 1=(st.length:Nat):=by simp
   simp[h3,h4,hc1]
   refine⟨by omega,hst.push_end.ix (by omega) (by rw[List.length_cons]; omega) fun p1 ver1 R1 m1 st1 hb1 hg1 hR1 hRl1=>?_⟩
   have hgl1:p1 < (G++[LObj.cells [LV.i 16,LV.i o.d,LV.i o.e,LV.i o.a,LV.i o.b,LV.i o.c,LV.u o.imm] 1]).length:=(List.getElem?_eq_some_iff.1 hg1).1
   have hlast:R1[st.length]?=some (.i a):=by
    rw[hR1 _ (by simp)]
    simp
   have setp:∀ x y,((G++[x]).set p y)[p]?=some y:=fun x y=>List.getElem?_set_self (by simp; omega)
   have set1:layLV (out.map LV.i) i [.i (a:Int)]=(out.map LV.i).set i (.i (a:Int)):=by
    rw[lay_set _ _ _ (by omega),List.map_set]
   have set2:layLV ((out.map LV.i).set i (.i (a:Int))) a [.i (i:Int)]=((out.map LV.i).set i (.i (a:Int))).set a (.i (i:Int)):=by
    rw[←List.map_set,lay_set _ _ _ (by simp; omega),List.map_set]
   have ha2:a < os.length:=by omega
   simp[hg1,nthL_at hlast,h3,h4]
   refine hst.push_end.ix (by omega) (by rw[List.length_cons]; omega) fun p2 ver2 R2 m2 st2 hb2 hg2 hR2 hRl2=>?_
   have hlast2:R2[st.length]?=some (.i a):=by
    rw[hR2 _ (by simp)]
    simp
   simp[hg2,nthL_at hlast2,h3,h4,↓old1 hpl,hGp,g,ha2,hol,↓setp,set1,set2]
   refine⟨by omega,by omega,(hst.push_end.set_lt hpb).cut (m:=st.length) (by simp) (fun K' k'=>k') (fun d K' k'=>k') fun v' hs'=>?_⟩
   simp[h19]
   refine⟨by omega,hNx _ _ _ ⟨N - 1,by omega,i+1,st,(out.set i a).set a i,v',s'+1+1,b,rfl,by omega,by simp[h3],by simp,by simp[h17],by simp[h18],by simp,by simp,hpb,by simp; omega,?_,?_,by simp[hol],?_,by simp at hsl; omega,fun a' ha'=>by have:=hsa a' (List.mem_cons_of_mem _ ha'); omega,hb.2,he⟩⟩
   ·rw[List.getElem?_set_ne (by omega),old1 hl]; exact hG0
   ·rw[List.getElem?_set_self (by simp; omega),List.map_set,List.map_set]
   ·have e:((a::st).reverse.map fun n:Nat=>LV.i n).take (st.length * 1)=st.reverse.map fun n:Nat=>LV.i n:=by
     rw[List.reverse_cons,List.map_append,Nat.mul_one,List.take_left' (by simp)]
    rw[e] at hs'
    exact hs'
  ·rw[if_neg (fun h=>k15 (kdK_15.1 h)),if_neg (fun h=>k16 (kdK_16.1 h))] at hb he
   simp[h3,h4,h17,h18,h19,g,q7,hqq,hf,k15,k16]
   refine⟨by omega,hNx _ _ _ ⟨N - 1,by omega,i+1,st,out,sv,s',b,rfl,by omega,by simp[h3],by simp[h4],by simp[h17],by simp[h18],by simp,by simp,hpb,by simp; omega,?_,?_,hol,hst.push_end,by omega,fun a' ha'=>by have:=hsa a' ha'; omega,hb.2,he⟩⟩
   ·rw[old1 hl]; exact hG0
   ·rw[old1 hpl]; exact hGp
 ·rw[List.drop_of_length_le (by omega)] at he
  have he:out=endsL kdK os:=by simpa [endsG] using he
  simp[h3,h17,h18,h19,g]
  refine⟨_,_,_,⟨rfl,rfl,rfl⟩,⟨s',?_⟩,di _⟩
  rw[←he,hol]; exact hGp
end Go.Proofs.YtnbnhnjffiagmaaGreat
