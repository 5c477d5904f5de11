/- Chapter 20: what its statements share. -/
import Derived.Test.YtnbnhnjffiagmaaGreatFnNh
import Derived.Test.YtnbnhnjffiagmaaGreatFnL20
namespace Go.Proofs.YtnbnhnjffiagmaaGreat
open Go.Sv
set_option linter.unusedSimpArgs false
set_option maxRecDepth 10000
def c_law20_light:LC:=(.seq (.ops [.z 2 (.box (.t 0)),.z 4 (.move (.c (.bool false)))]) (.seq (.ops [.z 5 (.loadN 3 (.t 2)),.z 6 (.callV (.c (.fn (.func 54) [] [])) [.t 5,.c (.i 30),.c (.i 12),.c (.i 40)]),.m 7 6,⟨some 8,(some (7,true)),.move (.t 1)⟩,⟨some 9,(some (7,true)),.callV (.c (.fn (.func 21) [] [])) [.t 8,.c (.i 14),.c (.i 14)]⟩,.z 10 (.pick (.t 7) (.t 9) (.c (.bool false))),.m 11 10,⟨some 12,(some (11,true)),.loadN 3 (.t 2)⟩,⟨some 13,(some (11,true)),.callV (.c (.fn (.func 37) [] [])) [.t 12]⟩,⟨some 14,(some (11,true)),.bin .neq true 32 (.t 13) (.c (.i 0))⟩,⟨some 15,(some (11,true)),.move (.t 14)⟩,⟨some 16,(some (15,false)),.loadN 3 (.t 2)⟩,⟨some 17,(some (15,false)),.callV (.c (.fn (.func 29) [] [])) [.t 16]⟩,⟨some 18,(some (15,false)),.bin .leq true 3 (.t 17) (.c (.i 300))⟩,⟨some 19,(some (11,true)),.pick (.t 15) (.c (.bool true)) (.t 18)⟩,.z 20 (.pick (.t 11) (.t 19) (.c (.bool false))),.m 4 20]) .ret))
theorem r_law20_light:resFn Tryz.prog 20=some ⟨21,c_law20_light.r,[.tmp 4]⟩:=by kernel_rfl
theorem k_law20_light:c_law20_light.ok=true:=by kernel_rfl
def c_ref19_Out:LC:=(.seq (.ops [.z 1 (.box (.t 0)),.z 2 (.move (.c .nilSl))]) (.seq (.ops [.z 3 (.move (.c .nilSl))]) (.seq (.seq (.ops [.z 4 (.move (.c (.i 0)))]) (.block 0 (.loop (.seq (.seq (.ops [.m 5 4,.f 6 0 1,.l 7 6,.z 8 (.lenSl (.t 7)),.z 9 (.bin .lss false 3 (.t 5) (.t 8)),.m 10 9,⟨some 11,(some (10,true)),.loadN 3 (.t 1)⟩,⟨some 12,(some (10,true)),.callV (.c (.fn (.func 37) [] [])) [.t 11]⟩,⟨some 13,(some (10,true)),.bin .eql true 32 (.t 12) (.c (.i 0))⟩,.z 14 (.pick (.t 10) (.t 13) (.c (.bool false)))]) (.cond (.t 14) .skip (.exit 0))) (.seq (.block 1 (.seq (.ops [.f 17 0 1,.l 18 17,.m 19 4,.z 20 (.ixAddr 3 (.t 18) (.t 19)),.f 21 2 20,.l 22 21,.z 23 (.bin .eql true 3 (.t 22) (.c (.i 3)))]) (.cond (.t 23) (.ops [.m 24 3,.m 25 4,.z 26 (.buildSl 1 1 [(.i 0)] [(0,1,.t 25)]),.z 27 (.appG 1 (.t 24) (.t 26)),.m 3 27]) .skip))) (.ops [.m 15 4,.z 16 (.bin .add true 3 (.t 15) (.c (.i 1))),.m 4 16])))))) (.seq (.ops [.m 28 3,.m 2 28]) .ret))))
theorem r_ref19_Out:resFn Tryz.prog 33=some ⟨29,c_ref19_Out.r,[.tmp 2]⟩:=by kernel_rfl
theorem k_ref19_Out:c_ref19_Out.ok=true:=by kernel_rfl
def lightB (vs:List Vr) (os rs:List Ko):Bool:=vs.all (fun v=>decide (v.limbs≤12)) && (decide ((vs.length:Int)≤30) && (decide ((os.length:Int)≤40) && decide ((rs.length:Int)≤40)))
noncomputable def lightD (vs:List Vr) (os rs:List Ko) (ins:List (List UInt64)):Bool:=lightB vs os rs && (decide (ins.length≤(14:Int)∧∀ x∈ins,(x.length:Int)≤14) && (!chkB vs os rs || decide (stepsN20 vs os rs≤300)))
theorem law20_light_ok (vs:List Vr) (os rs:List Ko) (ins:List (List UInt64)) (hl:vs.length≤9223372036854775807) (hn:ins.length≤9223372036854775807):FnS Tryz.prog 20 [.agg (kerC vs os rs),LN ins] (.bool (lightD vs os rs ins)) []:=by
 have hkd:dats (kerC vs os rs)=true:=by simp[kerC,dats,LV.dat,vsC_dats,osC_dats]
 have hk3:(kerC vs os rs).length=3:=rfl
 have hkt:(kerC vs os rs).take 3=kerC vs os rs:=rfl
 refine FnS.val rfl (call_body r_law20_light k_law20_light (by simp) ?_)
 simp[c_law20_light,hk3,hkt]
 refine CallL_F (LightKern_ok vs os rs 30 12 40 hl) (bors_self _ (by simp[dats,LV.dat,hkd])) ?_
 rw[show (vs.all (fun v=>decide (v.limbs≤12)) && (decide ((vs.length:Int)≤30) && (decide ((os.length:Int)≤40) && decide ((rs.length:Int)≤40))))=lightB vs os rs from rfl]
 unfold lightD
 have hLN:=kit_LightNats_ok ins 14 14 hn
 generalize decide (ins.length≤(14:Int)∧∀ x∈ins,(x.length:Int)≤14)=B at *
 cases lightB vs os rs with
 | false=>simp
 | true =>
 simp
 refine CallL_F hLN (bors_self _ (by simp[dats,LV.dat,LN,LN_dats])) ?_
 cases B with
 | false=>simp
 | true =>
 simp[hk3,hkt]
 refine CallL_F (ref19_Check_ok vs os rs hl) (bors_self _ (by simp[dats,LV.dat,hkd])) ?_
 cases hc:chkB vs os rs with
 | false=>simp[chkE,hc]
 | true =>
 simp[chkE,hc,hk3,hkt]
 refine CallL_F (ref20_Steps_ok vs os rs hl) (bors_self _ (by simp[dats,LV.dat,hkd])) ?_
 by_cases hs:stepsN20 vs os rs≤300
 ·have hs':((stepsN20 vs os rs:Nat):Int)≤300:=by omega
  simp[hs,hs']
 ·have hs':¬ ((stepsN20 vs os rs:Nat):Int)≤300:=by omega
  simp[hs,hs']
theorem lightD_parts {vs:List Vr} {os rs:List Ko} {ins:List (List UInt64)} (h:lightD vs os rs ins=true):vs.length≤30∧os.length≤40∧rs.length≤40∧ins.length≤14∧(∀ x∈ins,x.length≤14)∧(chkB vs os rs=true→stepsN20 vs os rs≤300):=by
 unfold lightD lightB at h
 simp only[Bool.and_eq_true,decide_eq_true_eq,Bool.or_eq_true,Bool.not_eq_true'] at h
 obtain⟨⟨_,h1,h2,h3⟩,⟨h4,h5⟩,h6⟩:=h
 refine⟨by omega,by omega,by omega,by omega,fun x hx=>by have:=h5 x hx; omega,fun hc=>?_⟩
 rcases h6 with h6 | h6
 ·rw[hc] at h6; cases h6
 ·exact h6
theorem ref19_Out_ok (vs:List Vr) (os rs:List Ko) (hl1:vs.length≤1000000):FnV Tryz.prog 33 [.agg (kerC vs os rs)] (.lst (natC (outZ vs os rs)) (outZ vs os rs).length 1):=by
 have hkd:dats (kerC vs os rs)=true:=by simp[kerC,dats,LV.dat,vsC_dats,osC_dats]
 refine FnV.mk (by simp[LV.dat,natC_dats]) (call_body r_ref19_Out k_ref19_Out (by simp) ?_)
 have hk3:(kerC vs os rs).length=3:=rfl
 have hkt:(kerC vs os rs).take 3=kerC vs os rs:=rfl
 have hk0:(kerC vs os rs)[0]?=some (.lst (vsC vs) vs.length 3):=rfl
 simp[c_ref19_Out]
 refine loop_nx (fun ρ D G N=>∃ (i:Nat) (v:LV),D=[]∧N+i=vs.length∧lk ρ 1=.ptr 0 0∧lk ρ 3=v∧lk ρ 4=.i i∧0 < G.length∧G[0]?=some (.cells (kerC vs os rs) 0)∧(chkB vs os rs=true∨i=0)∧Rw 1 G v 1 (thoseV (fun v=>decide (v.mode=3)) vs i).length (natC (thoseV (fun v=>decide (v.mode=3)) vs i))) (N:=vs.length)
  ⟨0,.nilSl,rfl,by omega,by simp,by simp,by simp,by simp,by simp,by simp,by simpa [thoseV,natC] using Rw.nil⟩ ?_
 rintro N ρ D G ⟨i,v,rfl,hN,h1,h3,h4,hl,hG,hck,hR⟩ Nx hNx
 have htl:=thoseV_len (fun v=>decide (v.mode=3)) vs i
 by_cases g:i < vs.length
 ·simp[h1,h3,h4,g,hG,hk3,hkt,nthL_at hk0]
  refine CallL_F (ref19_Check_ok vs os rs (by omega)) (bors_self _ (by simp[dats,LV.dat,hkd])) ?_
  cases hc:chkB vs os rs with
  | false =>
   rw[hc] at hck
   have hi:i=0:=by simpa using hck
   subst hi
   have hb:=hR.bor (natC_dats _)
   simp[chkE,hc,h3,outZ]
   rcases hR with ⟨rfl,_⟩ | ⟨p,k,st,_,rfl,hp,_⟩
   ·simp[borR,bor,natC]
   ·simpa [borR,thoseV,natC] using hb
  | true =>
   have q2:=vs_at2 (at_gv g)
   have hqq:=vs_lt g
   have ht:=thoseV_succ (fun v=>decide (v.mode=3)) vs i
   generalize gv vs i=x at *
   by_cases hm:x.mode=3
   ·simp[chkE,hc,h1,h3,h4,g,hG,hk3,hkt,nthL_at hk0,nthL_at q2,hm]
    simp[hm] at ht
    refine Rw.push (m:=1) (x:=[.i i]) hR.push_end (by omega) (by simp) (by omega) rfl fun v' G' hR' hfr hb=>?_
    simp[h4]
    refine⟨by omega,hNx _ _ _ ⟨N - 1,by omega,i+1,v',rfl,by omega,by simp[h1],by simp,by simp,by omega,by rw[hfr 0 (by omega),old1 hl]; exact hG,.inl hc,?_⟩⟩
    rw[ht]
    simpa [natC] using hR'
   ·simp[chkE,hc,h1,h3,h4,g,hG,hk3,hkt,nthL_at hk0,nthL_at q2,hm]
    simp[hm] at ht
    exact⟨by omega,hNx _ _ _ ⟨N - 1,by omega,i+1,v,rfl,by omega,by simp[h1],by simp[h3],by simp,hl,hG,.inl hc,by rw[ht]; exact hR⟩⟩
 ·have hi:i=vs.length:=by omega
  subst hi
  have hb:=hR.bor (natC_dats _)
  have hz:outZ vs os rs=thoseV (fun v=>decide (v.mode=3)) vs vs.length:=by
   unfold outZ
   rcases hck with hc | hi
   ·rw[if_pos hc,outV_those]
   ·split
    ·rw[outV_those]
    ·rw[hi]; rfl
  rw[hz]
  simp[h1,h3,h4,hG,hk3,hkt,nthL_at hk0]
  rcases hR with ⟨rfl,_⟩ | ⟨p,k,st,_,rfl,_,_⟩ <;> exact hb
end Go.Proofs.YtnbnhnjffiagmaaGreat
