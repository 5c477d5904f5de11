/- Kernels' meaning: low limbs, what is handed in and out. -/
import Derived.Test.YtnbnhnjffiagmaaGreatFnK8
import Derived.Test.YtnbnhnjffiagmaaGreatFnQ
import Derived.Test.YtnbnhnjffiagmaaGreatSvG3
namespace Go.Proofs.YtnbnhnjffiagmaaGreat
open Go.Sv
set_option linter.unusedSimpArgs false
set_option maxRecDepth 10000
def c_nat_Low:LC:=(.seq (.ops [.z 4 (.move (.c .nilSl))]) (.seq (.ops [.m 5 0,.m 6 1,.z 7 (.maxi true (.c (.i 0)) (.t 6)),.m 8 0,.z 9 (.lenSl (.t 8)),.z 10 (.maxi false (.t 7) (.t 9)),.z 11 (.slSl 1 (.t 5) none (some (.t 10))),.z 12 (.callV (.c (.fn (.func 42) [] [])) [.t 11]),.m 4 12]) .ret))
theorem r_nat_Low:resFn Tryz.prog 115=some ⟨13,c_nat_Low.r,[.tmp 4]⟩:=by kernel_rfl
theorem k_nat_Low:c_nat_Low.ok=true:=by kernel_rfl
def c_lengths_Out_1:LC:=(.seq (.ops [.z 1 (.box (.t 0)),.z 2 (.move (.c (.bool false)))]) (.seq (.ops [.f 3 2 1,.l 4 3,.z 5 (.bin .eql true 3 (.t 4) (.c (.i 3))),.m 2 5]) .ret))
theorem r_lengths_Out_1:resFn Tryz.prog 72=some ⟨6,c_lengths_Out_1.r,[.tmp 2]⟩:=by kernel_rfl
theorem k_lengths_Out_1:c_lengths_Out_1.ok=true:=by kernel_rfl
def c_lengths_those:LC:=(.seq (.ops [.z 2 (.box (.t 0)),.z 4 (.move (.c .nilSl))]) (.seq (.seq (.ops [.z 8 (.loadN 3 (.t 2)),.z 9 (.callV (.c (.fn (.func 45) [] [])) [.t 8]),.z 10 (.bin .neq true 32 (.t 9) (.c (.i 0)))]) (.cond (.t 10) (.seq (.ops [.z 4 (.move (.c .nilSl))]) .ret) .skip)) (.seq (.ops [.z 5 (.move (.c .nilSl))]) (.seq (.seq (.ops [.f 11 0 2,.l 12 11,.z 13 (.lenSl (.t 12)),.z 14 (.move (.c (.i 0)))]) (.block 0 (.loop (.seq (.ops [.z 15 (.bin .lss false 3 (.t 14) (.t 13))]) (.seq (.cond (.t 15) .skip (.exit 0)) (.seq (.block 1 (.seq (.ops [.m 16 14,.z 17 (.ixAddr 3 (.t 12) (.t 14)),.z 18 (.loadN 3 (.t 17)),.z 7 (.alloc [(.i 0),(.bool false),(.i 0)]),.m 6 16,⟨none,none,.store 3 (.t 7) (.t 18)⟩]) (.seq (.ops [.m 19 1,.z 20 (.loadN 3 (.t 7)),.z 21 (.callV (.t 19) [.t 20])]) (.cond (.t 21) (.ops [.m 22 5,.m 23 6,.z 24 (.buildSl 1 1 [(.i 0)] [(0,1,.t 23)]),.z 25 (.appG 1 (.t 22) (.t 24)),.m 5 25]) .skip)))) (.ops [.z 26 (.bin .add true 3 (.t 14) (.c (.i 1))),.m 14 26]))))))) (.seq (.ops [.m 27 5,.m 4 27]) .ret)))))
theorem r_lengths_those:resFn Tryz.prog 71=some ⟨28,c_lengths_those.r,[.tmp 4]⟩:=by kernel_rfl
theorem k_lengths_those:c_lengths_those.ok=true:=by kernel_rfl
def c_lengths_In:LC:=(.seq (.ops [.z 1 (.box (.t 0)),.z 2 (.move (.c .nilSl))]) (.seq (.ops [.z 3 (.loadN 3 (.t 1)),.z 4 (.callV (.c (.fn (.func 71) [] [])) [.t 3,(.c (.fn (.func 77) [] []))]),.m 2 4]) .ret))
theorem r_lengths_In:resFn Tryz.prog 61=some ⟨5,c_lengths_In.r,[.tmp 2]⟩:=by kernel_rfl
theorem k_lengths_In:c_lengths_In.ok=true:=by kernel_rfl
def c_lengths_Out:LC:=(.seq (.ops [.z 1 (.box (.t 0)),.z 2 (.move (.c .nilSl))]) (.seq (.ops [.z 3 (.loadN 3 (.t 1)),.z 4 (.callV (.c (.fn (.func 71) [] [])) [.t 3,(.c (.fn (.func 72) [] []))]),.m 2 4]) .ret))
theorem r_lengths_Out:resFn Tryz.prog 41=some ⟨5,c_lengths_Out.r,[.tmp 2]⟩:=by kernel_rfl
theorem k_lengths_Out:c_lengths_Out.ok=true:=by kernel_rfl
theorem val_take_mod (a:List UInt64) (m:Nat) (h:m≤a.length):val (a.take m)=val a % 2 ^ (64 * m):=by
 have e:=val_append (a.take m) (a.drop m)
 rw[List.take_append_drop,List.length_take,Nat.min_eq_left h] at e
 have h2:=val_lt (a.take m)
 rw[List.length_take,Nat.min_eq_left h] at h2
 rw[e,Nat.add_mul_mod_self_left,Nat.mod_eq_of_lt h2]
theorem low_val (a:List UInt64) (n:Int):val (a.take (min (max 0 n) (a.length:Int)).toNat)=val a % two64 n:=by
 by_cases h:(a.length:Int)≤n
 ·rw[show (min (max 0 n) (a.length:Int)).toNat=a.length by omega,List.take_length,two64,Nat.mod_eq_of_lt]
  exact Nat.lt_of_lt_of_le (val_lt a) (Nat.pow_le_pow_right (by decide) (by omega))
 ·rw[show (min (max 0 n) (a.length:Int)).toNat=n.toNat by omega]
  exact val_take_mod a _ (by omega)
theorem nat_Low_ok (a:List UInt64) (n:Int) (ha:a.length≤1000000):FnS Tryz.prog 115 [LU a,.i n] (.dy 0 0) [RU (toL (val a % two64 n))]:=by
 refine FnS.row (call_body r_nat_Low k_nat_Low (by simp) ?_)
 simp[c_nat_Low]
 refine⟨by omega,by omega,?_⟩
 rw[←low_val a n]
 generalize hm:(min (max 0 n) (a.length:Int)).toNat=m
 have hl:m≤a.length:=by omega
 have e:(a.take m).length=m:=by simp; omega
 refine CallL_S (nat_Trim_ok (a.take m) (by omega)) (by simp[e]) ?_
 simp
 exact .inr ⟨0,0,0,rfl,rfl⟩
theorem Out_1_ok (v:Vr):FnS Tryz.prog 72 [.agg v.f] (.bool (decide (v.mode=3))) []:=by
 refine FnS.val rfl (call_body r_lengths_Out_1 k_lengths_Out_1 (by simp) ?_)
 simp[c_lengths_Out_1,Vr.f]
def natC (l:List Nat):List LV:=l.map fun n:Nat=>.i n
theorem natC_dats (l:List Nat):dats (natC l)=true:=dats_map (fun _=>rfl) l
theorem natC_at {l:List Nat} {j:Nat} (h:j < l.length):(natC l)[j]?=some (.i (l.getD j 0)):=by
 simp[natC,List.getD_eq_getElem?_getD,h]
theorem those_ok (vs:List Vr) (os rs:List Ko) (f:Nat) (p:Vr→Bool) (hp:∀ v:Vr,FnS Tryz.prog f [.agg v.f] (.bool (p v)) []) (hl1:vs.length≤9223372036854775807) :
  FnV Tryz.prog 71 [.agg (kerC vs os rs),.fn (.func f) [] []] (.lst (natC (if chkB vs os rs=true then thoseV p vs vs.length else [])) (if chkB vs os rs=true then thoseV p vs vs.length else []).length 1):=by
 have hkd:dats (kerC vs os rs)=true:=by simp[kerC,dats,LV.dat,vsC_dats,osC_dats]
 refine FnV.mk (by simp[LV.dat,natC_dats]) (call_body r_lengths_those k_lengths_those (by simp) ?_)
 have hk3:(kerC vs os rs).length=3:=rfl
 have hkt:(kerC vs os rs).take 3=kerC vs os rs:=rfl
 simp[c_lengths_those,hk3,hkt]
 refine CallL_F (lengths_Check_ok vs os rs hl1) (bors_self _ (by simp[dats,LV.dat,hkd])) ?_
 cases hc:chkB vs os rs with
 | false=>simp[chkE,hc,borR,bor,natC]
 | true =>
 have hvl:vs.length≤256:=by
  have h:=hc
  unfold chkB at h
  simp only[Bool.and_eq_true] at h
  exact (varsB_len h.1).2
 simp[chkE,hc,kerC]
 refine loop_nx (fun ρ D G N=>∃ (i:Nat) (v:LV),D=[]∧N+i=vs.length∧lk ρ 1=.fn (.func f) [] []∧lk ρ 5=v∧lk ρ 12=.lst (vsC vs) vs.length 3∧lk ρ 13=.i vs.length∧lk ρ 14=.i i∧0 < G.length∧Rw 1 G v 1 (thoseV p vs i).length (natC (thoseV p vs i))) (N:=vs.length)
  ⟨0,.nilSl,rfl,by omega,by simp,by simp,by simp,by simp,by simp,by simp,by simpa [thoseV,natC] using Rw.nil⟩ ?_
 rintro N ρ D G ⟨i,v,rfl,hN,h1,h5,h12,h13,h14,hl,hR⟩ Nx hNx
 have htl:=thoseV_len p vs i
 by_cases g:i < vs.length
 ·have q3:=vs_three (at_gv g)
  have hqq:=vs_lt g
  have hf3:(gv vs i).f=[.i (gv vs i).limbs,.bool (gv vs i).sec,.i (gv vs i).mode]:=rfl
  have ht:=thoseV_succ p vs i
  have hpx:=hp (gv vs i)
  generalize gv vs i=x at *
  simp[h1,h12,h13,h14,g,q3,hqq,hf3]
  rw[←hf3]
  refine CallL_F hpx (bors_self _ (by simp[dats,LV.dat,hf3])) ?_
  cases hh:p x with
  | false =>
   simp[h14]
   rw[hh] at ht
   simp at ht
   refine⟨by omega,hNx _ _ _ ⟨N - 1,by omega,i+1,v,rfl,by omega,by simp[h1],by simp[h5],by simp[h12],by simp[h13],by simp,by simp,by rw[ht]; exact hR.push_end⟩⟩
  | true =>
   simp[h5]
   rw[hh] at ht
   simp at ht
   refine Rw.push (m:=1) (x:=[.i i]) hR.push_end (by omega) (by simp) (by omega) rfl fun v' G' hR' hfr hb=>?_
   simp[h14]
   refine⟨by omega,hNx _ _ _ ⟨N - 1,by omega,i+1,v',rfl,by omega,by simp[h1],by simp,by simp[h12],by simp[h13],by simp,by omega,?_⟩⟩
   rw[ht]
   simpa [natC] using hR'
 ·have hi:i=vs.length:=by omega
  subst hi
  simp[h5,h12,h13,h14]
  have hb:=hR.bor (natC_dats _)
  rcases hR with ⟨rfl,_⟩ | ⟨p,k,st,_,rfl,_,_⟩ <;> exact hb
theorem lengths_In_ok (vs:List Vr) (os rs:List Ko) (hl1:vs.length≤9223372036854775807):FnV Tryz.prog 61 [.agg (kerC vs os rs)] (.lst (natC (inZ vs os rs)) (inZ vs os rs).length 1):=by
 have hkd:dats (kerC vs os rs)=true:=by simp[kerC,dats,LV.dat,vsC_dats,osC_dats]
 refine FnV.mk (by simp[LV.dat,natC_dats]) (call_body r_lengths_In k_lengths_In (by simp) ?_)
 have hk3:(kerC vs os rs).length=3:=rfl
 have hkt:(kerC vs os rs).take 3=kerC vs os rs:=rfl
 simp[c_lengths_In,hk3,hkt]
 refine CallL_V (those_ok vs os rs _ givenB (fun v=>lengths_given_ok v) hl1) (by simp[dats,LV.dat,hkd]) ?_
 simp[borR,bor,LV.dat,natC_dats,inZ,inV_those]
theorem lengths_Out_ok (vs:List Vr) (os rs:List Ko) (hl1:vs.length≤9223372036854775807):FnV Tryz.prog 41 [.agg (kerC vs os rs)] (.lst (natC (outZ vs os rs)) (outZ vs os rs).length 1):=by
 have hkd:dats (kerC vs os rs)=true:=by simp[kerC,dats,LV.dat,vsC_dats,osC_dats]
 refine FnV.mk (by simp[LV.dat,natC_dats]) (call_body r_lengths_Out k_lengths_Out (by simp) ?_)
 have hk3:(kerC vs os rs).length=3:=rfl
 have hkt:(kerC vs os rs).take 3=kerC vs os rs:=rfl
 simp[c_lengths_Out,hk3,hkt]
 refine CallL_V (those_ok vs os rs _ (fun v=>decide (v.mode=3)) (fun v=>Out_1_ok v) hl1) (by simp[dats,LV.dat,hkd]) ?_
 simp[borR,bor,LV.dat,natC_dats,outZ,outV_those]
end Go.Proofs.YtnbnhnjffiagmaaGreat
