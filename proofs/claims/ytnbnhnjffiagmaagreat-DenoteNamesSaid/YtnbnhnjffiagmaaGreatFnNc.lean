/- Kernels' meaning: what each kind makes. -/
import Derived.Test.YtnbnhnjffiagmaaGreatFnNb
namespace Go.Proofs.YtnbnhnjffiagmaaGreat
open Go.Sv
set_option linter.unusedSimpArgs false
set_option maxRecDepth 10000
def c_denote_value:LC:=(.seq (.ops [.z 4 (.move (.c .nilSl))]) (.seq (.ops [.m 5 0,.m 4 5]) .ret))
theorem r_denote_value:resFn Tryz.prog 106=some ⟨6,c_denote_value.r,[.tmp 4]⟩:=by kernel_rfl
theorem k_denote_value:c_denote_value.ok=true:=by kernel_rfl
def c_denote_table_1:LC:=(.seq (.ops [.z 1 (.box (.t 0)),.z 2 (.move (.c .nilSl))]) (.seq (.ops [.f 3 1 1,.l 4 3,.z 5 (.buildSl 1 1 [(.u 0)] [(0,1,.t 4)]),.m 2 5]) .ret))
theorem r_denote_table_1:resFn Tryz.prog 94=some ⟨6,c_denote_table_1.r,[.tmp 2]⟩:=by kernel_rfl
theorem k_denote_table_1:c_denote_table_1.ok=true:=by kernel_rfl
def c_denote_table_2:LC:=(.seq (.ops [.z 1 (.box (.t 0)),.z 2 (.move (.c .nilSl))]) (.seq (.ops [.f 3 2 1,.l 4 3,.m 2 4]) .ret))
theorem r_denote_table_2:resFn Tryz.prog 95=some ⟨5,c_denote_table_2.r,[.tmp 2]⟩:=by kernel_rfl
theorem k_denote_table_2:c_denote_table_2.ok=true:=by kernel_rfl
def c_denote_table_3:LC:=(.seq (.ops [.z 1 (.box (.t 0)),.z 2 (.move (.c .nilSl))]) (.seq (.ops [.f 3 2 1,.l 4 3,.f 5 3 1,.l 6 5,.z 7 (.callV (.c (.fn (.func 97) [] [])) [.t 4,.t 6]),.m 2 7]) .ret))
theorem r_denote_table_3:resFn Tryz.prog 96=some ⟨8,c_denote_table_3.r,[.tmp 2]⟩:=by kernel_rfl
theorem k_denote_table_3:c_denote_table_3.ok=true:=by kernel_rfl
def c_denote_args_sub:LC:=(.seq (.ops [.z 1 (.box (.t 0)),.z 2 (.move (.c .nilSl))]) (.seq (.ops [.f 4 0 1,.l 5 4,.z 6 (.bin .add true 3 (.t 5) (.c (.i 1))),.z 7 (.mkSl 1 [(.u 0)] (.t 6) (.t 6)),.m 3 7]) (.seq (.ops [.m 8 3,.f 9 0 1,.l 10 9,.z 11 (.ixAddr 1 (.t 8) (.t 10)),⟨none,none,.store 1 (.t 11) (.c (.u 1))⟩]) (.seq (.draw [(.f 12 2 1,[]),(.l 13 12,[]),(.f 14 0 1,[]),(.l 15 14,[]),(.m 17 3,[]),(.f 19 3 1,[]),(.l 20 19,[]),(.f 21 0 1,[]),(.l 22 21,[]),(.z 16 (.callV (.c (.fn (.func 115) [] [])) [.t 13,.t 15]),[(.l 22 21,false),(.l 20 19,false)]),(.z 18 (.callV (.c (.fn (.func 97) [] [])) [.t 16,.t 17]),[(.l 22 21,false),(.l 20 19,false)]),(.z 23 (.callV (.c (.fn (.func 115) [] [])) [.t 20,.t 22]),[]),(.z 24 (.callV (.c (.fn (.func 142) [] [])) [.t 18,.t 23]),[]),(.z 25 (.extract 0 (.t 24)),[]),(.z 26 (.extract 1 (.t 24)),[]),(.z 27 (.callV (.c (.fn (.func 106) [] [])) [.t 25,.t 26]),[]),(.m 2 27,[])]) .ret))))
theorem r_denote_args_sub:resFn Tryz.prog 98=some ⟨28,c_denote_args_sub.r,[.tmp 2]⟩:=by kernel_rfl
theorem k_denote_args_sub:c_denote_args_sub.ok=true:=by kernel_rfl
def c_denote_table_4:LC:=(.seq (.ops [.z 1 (.box (.t 0)),.z 2 (.move (.c .nilSl))]) (.seq (.ops [.f 3 2 1,.l 4 3,.f 5 3 1,.l 6 5,.z 7 (.callV (.c (.fn (.func 100) [] [])) [.t 4,.t 6]),.m 2 7]) .ret))
theorem r_denote_table_4:resFn Tryz.prog 99=some ⟨8,c_denote_table_4.r,[.tmp 2]⟩:=by kernel_rfl
theorem k_denote_table_4:c_denote_table_4.ok=true:=by kernel_rfl
def c_denote_table_5:LC:=(.seq (.ops [.z 1 (.box (.t 0)),.z 2 (.move (.c .nilSl))]) (.seq (.ops [.f 3 2 1,.l 4 3,.f 5 3 1,.l 6 5,.z 7 (.callV (.c (.fn (.func 100) [] [])) [.t 4,.t 6]),.m 2 7]) .ret))
theorem r_denote_table_5:resFn Tryz.prog 101=some ⟨8,c_denote_table_5.r,[.tmp 2]⟩:=by kernel_rfl
theorem k_denote_table_5:c_denote_table_5.ok=true:=by kernel_rfl
def c_denote_args_less:LC:=(.seq (.ops [.z 1 (.box (.t 0)),.z 2 (.move (.c .nilSl))]) (.seq (.seq (.ops [.f 3 2 1,.l 4 3,.f 5 3 1,.l 6 5,.z 7 (.callV (.c (.fn (.func 53) [] [])) [.t 4,.t 6]),.z 8 (.bin .lss true 3 (.t 7) (.c (.i 0)))]) (.cond (.t 8) (.seq (.ops [.z 9 (.buildSl 1 1 [(.u 0)] [(0,1,.c (.u 1))]),.m 2 9]) .ret) .skip)) (.seq (.ops [.z 2 (.move (.c .nilSl))]) .ret)))
theorem r_denote_args_less:resFn Tryz.prog 102=some ⟨10,c_denote_args_less.r,[.tmp 2]⟩:=by kernel_rfl
theorem k_denote_args_less:c_denote_args_less.ok=true:=by kernel_rfl
def c_denote_args_sel:LC:=(.seq (.ops [.z 1 (.box (.t 0)),.z 2 (.move (.c .nilSl))]) (.seq (.seq (.ops [.f 3 4 1,.l 4 3,.z 5 (.callV (.c (.fn (.func 51) [] [])) [.t 4,.c (.i 0)])]) (.cond (.t 5) (.seq (.ops [.f 6 2 1,.l 7 6,.m 2 7]) .ret) .skip)) (.seq (.ops [.f 8 3 1,.l 9 8,.m 2 9]) .ret)))
theorem r_denote_args_sel:resFn Tryz.prog 103=some ⟨10,c_denote_args_sel.r,[.tmp 2]⟩:=by kernel_rfl
theorem k_denote_args_sel:c_denote_args_sel.ok=true:=by kernel_rfl
def c_denote_args_rest:LC:=(.seq (.ops [.z 1 (.box (.t 0)),.z 2 (.move (.c .nilSl))]) (.seq (.ops [.f 7 2 1,.l 8 7,.f 9 4 1,.l 10 9,.z 11 (.callV (.c (.fn (.func 144) [] [])) [.t 8,.t 10]),.m 6 11,.z 12 (.extract 0 (.t 6)),.z 13 (.extract 1 (.t 6)),.z 14 (.extract 2 (.t 6)),.m 3 12,.m 4 13,.m 5 14]) (.seq (.ops [.m 15 4,.m 2 15]) .ret)))
theorem r_denote_args_rest:resFn Tryz.prog 104=some ⟨16,c_denote_args_rest.r,[.tmp 2]⟩:=by kernel_rfl
theorem k_denote_args_rest:c_denote_args_rest.ok=true:=by kernel_rfl
def c_denote_table_6:LC:=(.seq (.ops [.z 1 (.box (.t 0)),.z 2 (.move (.c .nilSl))]) (.seq (.ops [.f 3 2 1,.l 4 3,.f 5 3 1,.l 6 5,.f 7 4 1,.l 8 7,.z 9 (.callV (.c (.fn (.func 107) [] [])) [.t 4,.t 6,.t 8]),.z 10 (.extract 0 (.t 9)),.z 11 (.extract 1 (.t 9)),.z 12 (.callV (.c (.fn (.func 106) [] [])) [.t 10,.t 11]),.m 2 12]) .ret))
theorem r_denote_table_6:resFn Tryz.prog 105=some ⟨13,c_denote_table_6.r,[.tmp 2]⟩:=by kernel_rfl
theorem k_denote_table_6:c_denote_table_6.ok=true:=by kernel_rfl
def c_denote_table_7:LC:=(.seq (.ops [.z 1 (.box (.t 0)),.z 2 (.move (.c .nilSl))]) (.seq (.ops [.f 3 2 1,.l 4 3,.f 5 3 1,.l 6 5,.f 7 4 1,.l 8 7,.z 9 (.callV (.c (.fn (.func 109) [] [])) [.t 4,.t 6,.t 8]),.z 10 (.extract 0 (.t 9)),.z 11 (.extract 1 (.t 9)),.z 12 (.callV (.c (.fn (.func 106) [] [])) [.t 10,.t 11]),.m 2 12]) .ret))
theorem r_denote_table_7:resFn Tryz.prog 108=some ⟨13,c_denote_table_7.r,[.tmp 2]⟩:=by kernel_rfl
theorem k_denote_table_7:c_denote_table_7.ok=true:=by kernel_rfl
def c_denote_table_8:LC:=(.seq (.ops [.z 1 (.box (.t 0)),.z 2 (.move (.c .nilSl))]) (.seq (.draw [(.f 3 2 1,[]),(.l 4 3,[]),(.f 5 3 1,[]),(.l 6 5,[]),(.f 8 4 1,[]),(.l 9 8,[]),(.f 10 5 1,[]),(.l 11 10,[]),(.z 7 (.callV (.c (.fn (.func 100) [] [])) [.t 4,.t 6]),[(.l 11 10,false),(.l 9 8,false)]),(.z 12 (.callV (.c (.fn (.func 111) [] [])) [.t 7,.t 9,.t 11]),[]),(.z 13 (.extract 0 (.t 12)),[]),(.z 14 (.extract 1 (.t 12)),[]),(.z 15 (.callV (.c (.fn (.func 106) [] [])) [.t 13,.t 14]),[]),(.m 2 15,[])]) .ret))
theorem r_denote_table_8:resFn Tryz.prog 110=some ⟨16,c_denote_table_8.r,[.tmp 2]⟩:=by kernel_rfl
theorem k_denote_table_8:c_denote_table_8.ok=true:=by kernel_rfl
def c_denote_table_9:LC:=(.seq (.ops [.z 1 (.box (.t 0)),.z 2 (.move (.c .nilSl))]) (.seq (.ops [.f 3 2 1,.l 4 3,.f 5 3 1,.l 6 5,.f 7 4 1,.l 8 7,.z 9 (.callV (.c (.fn (.func 113) [] [])) [.t 4,.t 6,.t 8]),.z 10 (.extract 0 (.t 9)),.z 11 (.extract 1 (.t 9)),.z 12 (.callV (.c (.fn (.func 106) [] [])) [.t 10,.t 11]),.m 2 12]) .ret))
theorem r_denote_table_9:resFn Tryz.prog 112=some ⟨13,c_denote_table_9.r,[.tmp 2]⟩:=by kernel_rfl
theorem k_denote_table_9:c_denote_table_9.ok=true:=by kernel_rfl
def c_denote_table:LC:=(.seq (.ops [.z 0 (.move (.c .nilMap))]) (.seq (.ops [.z 1 (.mkMap0),⟨none,none,.mapUpd (.int .i64) (.t 1) (.c (.i 1)) (.c (.fn (.func 94) [] []))⟩,⟨none,none,.mapUpd (.int .i64) (.t 1) (.c (.i 2)) (.c (.fn (.func 95) [] []))⟩,⟨none,none,.mapUpd (.int .i64) (.t 1) (.c (.i 3)) (.c (.fn (.func 96) [] []))⟩,⟨none,none,.mapUpd (.int .i64) (.t 1) (.c (.i 4)) (.c (.fn (.func 98) [] []))⟩,⟨none,none,.mapUpd (.int .i64) (.t 1) (.c (.i 5)) (.c (.fn (.func 99) [] []))⟩,⟨none,none,.mapUpd (.int .i64) (.t 1) (.c (.i 6)) (.c (.fn (.func 101) [] []))⟩,⟨none,none,.mapUpd (.int .i64) (.t 1) (.c (.i 7)) (.c (.fn (.func 102) [] []))⟩,⟨none,none,.mapUpd (.int .i64) (.t 1) (.c (.i 8)) (.c (.fn (.func 103) [] []))⟩,⟨none,none,.mapUpd (.int .i64) (.t 1) (.c (.i 9)) (.c (.fn (.func 104) [] []))⟩,⟨none,none,.mapUpd (.int .i64) (.t 1) (.c (.i 10)) (.c (.fn (.func 105) [] []))⟩,⟨none,none,.mapUpd (.int .i64) (.t 1) (.c (.i 11)) (.c (.fn (.func 108) [] []))⟩,⟨none,none,.mapUpd (.int .i64) (.t 1) (.c (.i 12)) (.c (.fn (.func 110) [] []))⟩,⟨none,none,.mapUpd (.int .i64) (.t 1) (.c (.i 13)) (.c (.fn (.func 112) [] []))⟩,.m 2 1,.m 0 2]) .ret))
theorem r_denote_table:resFn Tryz.prog 68=some ⟨3,c_denote_table.r,[.tmp 0]⟩:=by kernel_rfl
theorem k_denote_table:c_denote_table.ok=true:=by kernel_rfl
def argF (l:Int) (n:UInt64) (a b c:Nat) (w:Int):List LV:=[.i l,.u n,LU (toL a),LU (toL b),LU (toL c),.i w]
theorem argF_dats (l:Int) (n:UInt64) (a b c:Nat) (w:Int):dats (argF l n a b c w)=true:=by simp[argF,dats,LV.dat]
section
variable {l w : Int} {n : UInt64} {a b c : Nat}
theorem value_ok (r:List UInt64) (e:Int):FnV Tryz.prog 106 [LU r,.i e] (LU r):=by
 refine FnV.mk (by simp[LV.dat]) (call_body r_denote_value k_denote_value (by simp) ?_)
 simp[c_denote_value,borR]
theorem k1_ok:FnV Tryz.prog 94 [.agg (argF l n a b c w)] (LU [n]):=by
 refine FnV.mk (by simp[LV.dat]) (call_body r_denote_table_1 k_denote_table_1 (by simp) ?_)
 simp[c_denote_table_1,argF,borR]
theorem k2_ok:FnV Tryz.prog 95 [.agg (argF l n a b c w)] (LU (toL a)):=by
 refine FnV.mk (by simp[LV.dat]) (call_body r_denote_table_2 k_denote_table_2 (by simp) ?_)
 simp[c_denote_table_2,argF,borR]
theorem k3_ok (ha:(toL a).length≤512) (hb:(toL b).length≤512):FnV Tryz.prog 96 [.agg (argF l n a b c w)] (LU (toL (a+b))):=by
 refine FnV.mk (by simp[LV.dat]) (call_body r_denote_table_3 k_denote_table_3 (by simp) ?_)
 simp[c_denote_table_3,argF]
 refine CallL_F (nat_Add_ok (toL a) (toL b) (by omega) (by omega)) (by simp) ?_
 simp[val_toL,RU,borR]
theorem k4_ok (ha:(toL a).length≤512) (hb:(toL b).length≤512) (hl0:0≤l) (hl:l≤512):FnV Tryz.prog 98 [.agg (argF l n a b c w)] (LU (toL (a % two64 l+two64 l - b % two64 l))):=by
 refine FnV.mk (by simp[LV.dat]) (call_body r_denote_args_sub k_denote_args_sub (by simp) ?_)
 obtain⟨k,rfl⟩:=Int.eq_ofNat_of_zero_le hl0
 have hto:((k:Int)+1).toNat=k+1:=by omega
 have hlay:=layU (List.replicate (k+1) 0) k 1 (by simp)
 have e:(List.replicate (k+1) (0:UInt64)).set k 1=List.replicate k 0++[1]:=by
  rw[List.replicate_succ']
  simp[List.set_append]
 rw[e] at hlay
 have hr:repL [LV.u 0] (k+1)=(List.replicate (k+1) (0:UInt64)).map .u:=repU _
 simp only[List.map_replicate] at hlay hr
 have h1:=low_len (k:=512) a k hl
 have h2:=low_len (k:=512) b k hl
 have hw:val (List.replicate k 0++[1])=two64 k:=by rw[val_radix]; simp[two64]
 have hlt:¬ a % two64 (k:Int)+two64 (k:Int) < b % two64 (k:Int):=by
  have:=Nat.mod_lt b (two64_pos (k:Int))
  omega
 have h3:(toL (a % two64 (k:Int)+two64 (k:Int))).length≤1000:=by
  have:=len_add (k:=513) (len_le (Nat.le_refl _) (Nat.le_trans h1 (by omega))) (top_len (k:=512) (k:Int) hl)
  omega
 simp[c_denote_args_sub,argF,hto,hr,hlay]
 repeat (refine⟨by omega,?_⟩)
 refine CallL_F (nat_Low_ok (toL a) k (by omega)) (by simp) ?_
 simp[val_toL,RU]
 refine CallL_F (nat_Add_ok (toL (a % two64 (k:Int))) (List.replicate k 0++[1]) (by omega) (by simp; omega)) (bors2 (by simp[bor]) (RowAt.bor (l:=List.replicate k 0++[1]) (.inr ⟨_,_,_,rfl,by simp; rfl⟩))) ?_
 simp[val_toL,RU,hw]
 refine CallL_F (nat_Low_ok (toL b) k (by omega)) (by simp) ?_
 simp[val_toL,RU]
 refine CallL_F (nat_Sub_ok (toL (a % two64 (k:Int)+two64 (k:Int))) (toL (b % two64 (k:Int))) (by omega) (by omega)) (by simp) ?_
 simp[val_toL,RU,hlt]
 refine CallL_V (value_ok _ _) (by simp) ?_
 simp[borR]
theorem k5_ok (ha:(toL a).length≤512) (hb:(toL b).length≤512):FnV Tryz.prog 99 [.agg (argF l n a b c w)] (LU (toL (a * b))):=by
 refine FnV.mk (by simp[LV.dat]) (call_body r_denote_table_4 k_denote_table_4 (by simp) ?_)
 simp[c_denote_table_4,argF]
 refine CallL_F (nat_Mul_ok (toL a) (toL b) (by omega) (by omega)) (by simp) ?_
 simp[val_toL,RU,borR]
theorem k6_ok (ha:(toL a).length≤512) (hb:(toL b).length≤512):FnV Tryz.prog 101 [.agg (argF l n a b c w)] (LU (toL (a * b))):=by
 refine FnV.mk (by simp[LV.dat]) (call_body r_denote_table_5 k_denote_table_5 (by simp) ?_)
 simp[c_denote_table_5,argF]
 refine CallL_F (nat_Mul_ok (toL a) (toL b) (by omega) (by omega)) (by simp) ?_
 simp[val_toL,RU,borR]
theorem k7_ok (ha:(toL a).length≤512) (hb:(toL b).length≤512):FnV Tryz.prog 102 [.agg (argF l n a b c w)] (LU (if a < b then [1] else [])):=by
 refine FnV.mk (by simp[LV.dat]) (call_body r_denote_args_less k_denote_args_less (by simp) ?_)
 simp[c_denote_args_less,argF]
 refine CallL_F (nat_Compare_ok (toL a) (toL b) (by omega) (by omega)) (by simp) ?_
 by_cases h:a < b
 ·simp[val_toL,cmpN_lt,h,borR,bor]
 ·simp[val_toL,cmpN_lt,h,borR,bor]
theorem k8_ok:FnV Tryz.prog 103 [.agg (argF l n a b c w)] (LU (toL (if c % 2=1 then a else b))):=by
 refine FnV.mk (by simp[LV.dat]) (call_body r_denote_args_sel k_denote_args_sel (by simp) ?_)
 simp[c_denote_args_sel,argF]
 refine CallL_F (nat_Bit_ok (toL c) 0 (by omega)) (by simp) ?_
 by_cases h:c % 2=1
 ·simp[val_toL,Nat.testBit_zero,h,borR,bor]
 ·simp[val_toL,Nat.testBit_zero,h,borR,bor]
theorem k9_ok (ha:(toL a).length≤512) (hc:(toL c).length≤512) (h0:c≠0):FnV Tryz.prog 104 [.agg (argF l n a b c w)] (LU (toL (a % c))):=by
 refine FnV.mk (by simp[LV.dat]) (call_body r_denote_args_rest k_denote_args_rest (by simp) ?_)
 simp[c_denote_args_rest,argF]
 refine CallL_F (nat_Div_ok (toL a) (toL c) (by omega) (by omega)) (by simp) ?_
 simp[val_toL,RU,h0,borR]
theorem k10_ok (ha:(toL a).length≤512) (hb:(toL b).length≤512) (hc:(toL c).length≤512) (h0:c≠0):FnV Tryz.prog 105 [.agg (argF l n a b c w)] (LU (toL ((a+b) % c))):=by
 refine FnV.mk (by simp[LV.dat]) (call_body r_denote_table_6 k_denote_table_6 (by simp) ?_)
 simp[c_denote_table_6,argF]
 refine CallL_F (modular_Add_ok (toL a) (toL b) (toL c) (by omega) (by omega) (by omega)) (by simp) ?_
 simp[val_toL,RU,mR_p h0]
 refine CallL_V (value_ok _ _) (by simp) ?_
 simp[borR]
theorem k11_ok (ha:(toL a).length≤512) (hb:(toL b).length≤512) (hc:(toL c).length≤512) (h0:c≠0):FnV Tryz.prog 108 [.agg (argF l n a b c w)] (LU (toL (subM a b c))):=by
 refine FnV.mk (by simp[LV.dat]) (call_body r_denote_table_7 k_denote_table_7 (by simp) ?_)
 simp[c_denote_table_7,argF]
 refine CallL_F (modular_Sub_ok (toL a) (toL b) (toL c) (by omega) (by omega) (by omega)) (by simp) ?_
 simp[val_toL,RU,mR_p h0]
 refine CallL_V (value_ok _ _) (by simp) ?_
 simp[borR]
theorem mul_len (ha:(toL a).length≤512) (hb:(toL b).length≤512):(toL (a * b)).length≤1024:=len_mul ha hb
theorem k12_ok (ha:(toL a).length≤512) (hb:(toL b).length≤512) (hc:(toL c).length≤512):FnV Tryz.prog 110 [.agg (argF l n a b c w)] (LU (reR (toL (a * b)) (toL c) w)):=by
 have hm:=mul_len ha hb
 refine FnV.mk (by simp[LV.dat]) (call_body r_denote_table_8 k_denote_table_8 (by simp) ?_)
 simp[c_denote_table_8,argF]
 refine CallL_F (nat_Mul_ok (toL a) (toL b) (by omega) (by omega)) (by simp) ?_
 simp[val_toL,RU]
 refine CallL_F (modular_Reduce_ok (toL (a * b)) (toL c) w (by omega) (by omega)) (by simp) ?_
 simp[RU]
 refine CallL_V (value_ok _ _) (by simp) ?_
 simp[borR]
theorem k13_ok (ha:(toL a).length≤512) (hb:(toL b).length≤512) (hc:(toL c).length≤512) (h0:c≠0):FnV Tryz.prog 112 [.agg (argF l n a b c w)] (LU (toL (a ^ b % c))):=by
 refine FnV.mk (by simp[LV.dat]) (call_body r_denote_table_9 k_denote_table_9 (by simp) ?_)
 simp[c_denote_table_9,argF]
 refine CallL_V (modular_Pow_ok (toL a) (toL b) (toL c) (by omega) (by omega) (by omega)) (by simp) ?_
 simp[val_toL,RU,mR_p h0]
 refine CallL_V (value_ok _ _) (by simp) ?_
 simp[borR]
end
def tabF (k:Int):Option Nat :=
 if k=1 then some 94 else if k=2 then some 95 else if k=3 then some 96 else if k=4 then some 98 else if k=5 then some 99 else if k=6 then some 101 else if k=7 then some 102
 else if k=8 then some 103 else if k=9 then some 104 else if k=10 then some 105 else if k=11 then some 108 else if k=12 then some 110 else if k=13 then some 112 else none
def tabE:List (LV×LV×Nat):=[(.i 1,.fn (.func 94) [] [],0),(.i 2,.fn (.func 95) [] [],1),(.i 3,.fn (.func 96) [] [],2),(.i 4,.fn (.func 98) [] [],3),(.i 5,.fn (.func 99) [] [],4),(.i 6,.fn (.func 101) [] [],5),(.i 7,.fn (.func 102) [] [],6),
 (.i 8,.fn (.func 103) [] [],7),(.i 9,.fn (.func 104) [] [],8),(.i 10,.fn (.func 105) [] [],9),(.i 11,.fn (.func 108) [] [],10),(.i 12,.fn (.func 110) [] [],11),(.i 13,.fn (.func 112) [] [],12)]
theorem table_any {G:LHeap} {K:LV→LHeap→Prop} (k:∀ st,K (.map G.length) (G++[.map tabE 13 st])):CallL Tryz.prog (.fn 68) [] G K:=by
 refine call_body r_denote_table k_denote_table (by simp) ?_
 simp[c_denote_table]
 exact k _
theorem tab_find {k:Int} {K:LV→Prop} (h:(∀ f,tabF k=some f→K (.tup [.fn (.func f) [] [],.bool true]))∧(tabF k=none→K (.tup [.nilFn,.bool false]))):findL (.int .i64) (.i k) (lookK .nilFn true K) tabE:=by
 unfold tabF at h
 by_cases h1:k=1
 ·subst h1; simp at h; simpa [tabE] using h
 by_cases h2:k=2
 ·subst h2; simp at h; simpa [tabE] using h
 by_cases h3:k=3
 ·subst h3; simp at h; simpa [tabE] using h
 by_cases h4:k=4
 ·subst h4; simp at h; simpa [tabE] using h
 by_cases h5:k=5
 ·subst h5; simp at h; simpa [tabE] using h
 by_cases h6:k=6
 ·subst h6; simp at h; simpa [tabE] using h
 by_cases h7:k=7
 ·subst h7; simp at h; simpa [tabE] using h
 by_cases h8:k=8
 ·subst h8; simp at h; simpa [tabE] using h
 by_cases h9:k=9
 ·subst h9; simp at h; simpa [tabE] using h
 by_cases h10:k=10
 ·subst h10; simp at h; simpa [tabE] using h
 by_cases h11:k=11
 ·subst h11; simp at h; simpa [tabE] using h
 by_cases h12:k=12
 ·subst h12; simp at h; simpa [tabE] using h
 by_cases h13:k=13
 ·subst h13; simp at h; simpa [tabE] using h
 ·simp[h1,h2,h3,h4,h5,h6,h7,h8,h9,h10,h11,h12,h13] at h
  simpa [tabE,h1,h2,h3,h4,h5,h6,h7,h8,h9,h10,h11,h12,h13] using h
theorem tab_ok {vs:List Vr} {o:Ko} {v:List Nat} {f:Nat} (hv:varsB vs=true) (hk:okV vs v) (ho:oneB vs o=true) (hm:metB o v=true) (hf:tabF o.kind=some f) :
  ∃ r:List UInt64,r.length≤2000∧val r=rawV vs o v∧∀ w:Int,(0≤o.c→w=limbsAt vs o.c)→FnV Tryz.prog f [.agg (argF (limbsAt vs o.d) o.imm (gN v o.a) (gN v o.b) (gN v o.c) w)] (LU r):=by
 have ha:=okV_lenN hv hk o.a
 have hb:=okV_lenN hv hk o.b
 have hc:=okV_lenN hv hk o.c
 have key:o.kind≠17∧o.kind≠15∧o.kind≠16:=by
  refine⟨fun h=>?_,fun h=>?_,fun h=>?_⟩ <;> · rw[h] at hf; simp[tabF] at hf
 obtain⟨d0,d1⟩:=d_in ho key.1 key.2.1 key.2.2
 obtain⟨l0,l1⟩:=limbs_at hv d0 d1
 have one:∀ x:Nat,(toL x).length≤512→(toL x).length≤2000:=fun x h=>by omega
 generalize hA:gN v o.a=a at *
 generalize hB:gN v o.b=b at *
 generalize hC:gN v o.c=c at *
 have lmod:∀ x:Nat,c≠0→(toL (x % c)).length≤2000:=fun x h0=>Nat.le_trans (len_lt (Nat.mod_lt x (Nat.pos_of_ne_zero h0)) hc) (by omega)
 have cz:(o.kind=9∨o.kind=10∨o.kind=11∨o.kind=12∨o.kind=13)→c≠0:=fun h=>by have:=met_c hm h; rwa [hC] at this
 unfold tabF at hf
 by_cases h1:o.kind=1
 ·simp[h1] at hf; subst hf
  exact⟨[o.imm],by simp,by simp[rawV,h1,val],fun w _=>k1_ok⟩
 by_cases h2:o.kind=2
 ·simp[h2] at hf; subst hf
  exact⟨toL a,by omega,by simp[rawV,h2,val_toL,hA],fun w _=>k2_ok⟩
 by_cases h3:o.kind=3
 ·simp[h3] at hf; subst hf
  refine⟨toL (a+b),?_,by simp[rawV,h3,val_toL,hA,hB],fun w _=>k3_ok ha hb⟩
  have:=len_add ha hb
  omega
 by_cases h4:o.kind=4
 ·simp[h4] at hf; subst hf
  refine⟨toL (a % two64 (limbsAt vs o.d)+two64 (limbsAt vs o.d) - b % two64 (limbsAt vs o.d)),?_,by simp[rawV,h4,val_toL,hA,hB],fun w _=>k4_ok ha hb (by omega) l1⟩
  have e1:=low_len (k:=513) a (limbsAt vs o.d) (by omega)
  have e2:=len_add e1 (top_len (k:=512) (limbsAt vs o.d) l1)
  have:=len_le (Nat.sub_le _ (b % two64 (limbsAt vs o.d))) e2
  omega
 by_cases h5:o.kind=5
 ·simp[h5] at hf; subst hf
  have:=mul_len ha hb
  exact⟨toL (a * b),by omega,by simp[rawV,h5,val_toL,hA,hB],fun w _=>k5_ok ha hb⟩
 by_cases h6:o.kind=6
 ·simp[h6] at hf; subst hf
  have:=mul_len ha hb
  exact⟨toL (a * b),by omega,by simp[rawV,h6,val_toL,hA,hB],fun w _=>k6_ok ha hb⟩
 by_cases h7:o.kind=7
 ·simp[h7] at hf; subst hf
  refine⟨if a < b then [1] else [],by split <;> simp,?_,fun w _=>k7_ok ha hb⟩
  simp[rawV,h7,hA,hB]
  split <;> simp[val]
 by_cases h8:o.kind=8
 ·simp[h8] at hf; subst hf
  refine⟨toL (if c % 2=1 then a else b),by split <;> omega,by simp[rawV,h8,val_toL,hA,hB,hC],fun w _=>k8_ok⟩
 by_cases h9:o.kind=9
 ·simp[h9] at hf; subst hf
  have h0:=cz (.inl h9)
  exact⟨toL (a % c),lmod _ h0,by simp[rawV,h9,val_toL,hA,hC],fun w _=>k9_ok ha hc h0⟩
 by_cases h10:o.kind=10
 ·simp[h10] at hf; subst hf
  have h0:=cz (.inr (.inl h10))
  exact⟨toL ((a+b) % c),lmod _ h0,by simp[rawV,h10,val_toL,hA,hB,hC],fun w _=>k10_ok ha hb hc h0⟩
 by_cases h11:o.kind=11
 ·simp[h11] at hf; subst hf
  have h0:=cz (.inr (.inr (.inl h11)))
  exact⟨toL (subM a b c),lmod _ h0,by simp[rawV,h11,val_toL,hA,hB,hC],fun w _=>k11_ok ha hb hc h0⟩
 by_cases h12:o.kind=12
 ·simp[h12] at hf; subst hf
  have h0:=cz (.inr (.inr (.inr (.inl h12))))
  obtain⟨hp,_,_⟩:=one_parts (s:=29) ho (by simp[shapeN,h12])
  obtain⟨c0,_⟩:=parts_c hp (by decide)
  refine⟨reR (toL (a * b)) (toL c) (limbsAt vs o.c),?_,by simp[rawV,h12,hA,hB,hC],fun w e=>by rw[←e c0]; exact k12_ok ha hb hc⟩
  unfold reR
  split
  ·rw[val_toL,val_toL]
   exact lmod _ h0
  ·simp
 by_cases h13:o.kind=13
 ·simp[h13] at hf; subst hf
  have h0:=cz (.inr (.inr (.inr (.inr h13))))
  exact⟨toL (a ^ b % c),lmod _ h0,by simp[rawV,h13,val_toL,hA,hB,hC],fun w _=>k13_ok ha hb hc h0⟩
 ·simp[h1,h2,h3,h4,h5,h6,h7,h8,h9,h10,h11,h12,h13] at hf
end Go.Proofs.YtnbnhnjffiagmaaGreat
