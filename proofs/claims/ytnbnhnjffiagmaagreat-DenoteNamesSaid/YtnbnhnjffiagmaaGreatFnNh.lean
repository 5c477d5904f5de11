/- Kernels' meaning: a kernel run. -/
import Derived.Test.YtnbnhnjffiagmaaGreatFnNg
namespace Go.Proofs.YtnbnhnjffiagmaaGreat
open Go.Sv
set_option linter.unusedSimpArgs false
set_option maxRecDepth 10000
def c_denote_Run:LC:=(.seq (.ops [.z 2 (.box (.t 0)),.z 4 (.move (.c .nilSl)),.z 5 (.move (.c (.i 0)))]) (.seq (.seq (.ops [.z 10 (.loadN 3 (.t 2)),.m 11 1,.z 12 (.callV (.c (.fn (.func 30) [] [])) [.t 10,.t 11]),.m 6 12]) (.seq (.ops [.m 13 6,.z 14 (.bin .neq true 32 (.t 13) (.c (.i 0)))]) (.cond (.t 14) (.seq (.ops [.m 15 6,.z 4 (.move (.c .nilSl)),.m 5 15]) .ret) .skip))) (.seq (.block 0 (.seq (.ops [.z 17 (.loadN 3 (.t 2)),.m 18 1,.z 19 (.callV (.c (.fn (.func 18) [] [])) [.t 17,.t 18]),.z 20 (.un .not (.t 19)),.m 16 20]) (.cond (.t 16) (.seq (.ops [.z 4 (.move (.c .nilSl)),.z 5 (.move (.c (.i 9)))]) .ret) (.seq (.ops [.z 22 (.loadN 3 (.t 2)),.z 23 (.callV (.c (.fn (.func 17) [] [])) [.t 22]),.z 24 (.bin .gtr true 3 (.t 23) (.c (.i 16384))),.m 21 24]) (.cond (.t 21) (.seq (.ops [.z 4 (.move (.c .nilSl)),.z 5 (.move (.c (.i 10)))]) .ret) .skip))))) (.seq (.ops [.z 25 (.loadN 3 (.t 2)),.m 26 1,.z 27 (.callV (.c (.fn (.func 39) [] [])) [.t 25,.t 26]),.m 7 27]) (.seq (.seq (.ops [.m 28 7,.z 29 (.callV (.c (.fn (.func 40) [] [])) [.t 28]),.z 30 (.un .not (.t 29))]) (.cond (.t 30) (.seq (.ops [.z 4 (.move (.c .nilSl)),.z 5 (.move (.c (.i 9)))]) .ret) .skip)) (.seq (.seq (.ops [.z 31 (.loadN 3 (.t 2)),.z 32 (.callV (.c (.fn (.func 41) [] [])) [.t 31]),.z 33 (.lenSl (.t 32)),.z 34 (.move (.c (.i 0)))]) (.block 1 (.loop (.seq (.ops [.z 35 (.bin .lss false 3 (.t 34) (.t 33))]) (.seq (.cond (.t 35) .skip (.exit 1)) (.seq (.block 2 (.seq (.ops [.z 36 (.ixAddr 1 (.t 32) (.t 34)),.l 37 36,.m 9 37]) (.ops [.m 38 4,.m 39 7,.z 40 (.nilChk (.t 39)),.f 41 4 40,.l 42 41,.m 43 9,.z 44 (.ixAddr 1 (.t 42) (.t 43)),.l 45 44,.z 46 (.callV (.c (.fn (.func 42) [] [])) [.t 45]),.z 47 (.buildSl 1 1 [.nilSl] [(0,1,.t 46)]),.z 48 (.appG 1 (.t 38) (.t 47)),.m 4 48]))) (.ops [.z 49 (.bin .add true 3 (.t 34) (.c (.i 1))),.m 34 49]))))))) (.seq (.ops [.m 50 4,.m 4 50,.z 5 (.move (.c (.i 0)))]) .ret)))))))
theorem r_denote_Run:resFn Tryz.prog 11=some ⟨51,c_denote_Run.r,[.tmp 4,.tmp 5]⟩:=by kernel_rfl
theorem k_denote_Run:c_denote_Run.ok=true:=by kernel_rfl
theorem Run_ok (vs:List Vr) (os rs:List Ko) (ins:List (List UInt64)) (hl1:vs.length≤9223372036854775807) (hi:∀ x∈ins,x.length≤1000) :
  FnV Tryz.prog 11 [.agg (kerC vs os rs),LN ins] (.tup [LN (runD vs os rs (ins.map val)).1,.i (runD vs os rs (ins.map val)).2]):=by
 have hkd:dats (kerC vs os rs)=true:=by simp[kerC,dats,LV.dat,vsC_dats,osC_dats]
 refine FnV.mk (by simp[LV.dat,dats,LN,LN_dats]) (call_body r_denote_Run k_denote_Run (by simp) ?_)
 have hk3:(kerC vs os rs).length=3:=rfl
 have hkt:(kerC vs os rs).take 3=kerC vs os rs:=rfl
 have hdd:dats [.agg (kerC vs os rs),LN ins]=true:=by simp[dats,LV.dat,hkd,LN,LN_dats]
 simp[c_denote_Run,hk3,hkt]
 refine CallL_F (Fits_ok vs os rs ins hl1 hi) (bors_self _ hdd) ?_
 by_cases hf:fitD vs os rs (ins.map val)=0
 case neg=>simp[hf,runD,borR,bor,LN]
 obtain⟨hc,hn0,hfit⟩:=fitD_parts hf
 have hv:varsB vs=true:=by unfold chkB at hc; simp only[Bool.and_eq_true] at hc; exact hc.1
 have hvl:vs.length≤256:=(varsB_len hv).2
 simp[hf,hk3,hkt]
 refine CallL_F (Met_ok vs os rs ins hl1 hi) (bors_self _ hdd) ?_
 cases hm:metD vs os rs (ins.map val) with
 | false=>simp[hf,hm,runD,borR,bor,LN]
 | true =>
 simp[hk3,hkt]
 refine CallL_F (Steps_ok vs os rs hl1) (bors_self _ (by simp[dats,LV.dat,hkd])) ?_
 by_cases hs:stepsN20 vs os rs≤16384
 case neg =>
  have hs':(16384:Int) < ((stepsN20 vs os rs:Nat):Int):=by omega
  have hs2:¬ ((stepsN20 vs os rs:Nat):Int)≤16384:=by omega
  simp[hf,hm,hs,hs',hs2,runD,borR,bor,LN]
 have hs':¬ (16384:Int) < ((stepsN20 vs os rs:Nat):Int):=by omega
 simp[hs',hk3,hkt]
 refine start_any hl1 hi hf fun G2 r p st st' hke hr hp hGr hGp=>?_
 have hok:=okV_start hfit
 obtain⟨n,hn,hmr⟩:=run_mrun2 hc hs (startW vs (ins.map val))
 have h02:G2[0]?=some (.cells (kerC vs os rs) 0):=hke.at (by simp)
 have l02:0 < G2.length:=(List.getElem?_eq_some_iff.1 h02).1
 simp at hr hp
 simp
 refine all_any hGr hGp hc hok hn hmr (fun hres G3 hfr=>?_) (fun w hres hwk G3 L st3 st3' hfr hGr3 hGp3=>?_)
 ·simp[hf,hm,hs,hres,runD,borR,bor,LN]
 have h03:G3[0]?=some (.cells (kerC vs os rs) 0):=by rw[hfr 0 l02 (by omega) (by omega)]; exact h02
 have hrun:runD vs os rs (ins.map val)=((outV vs).map fun i=>toL (w.getD i 0),0):=by simp[runD,hf,hm,hs,hres]
 rw[hrun]
 obtain⟨X0,hX0⟩:∃ X0,(outV vs).map (fun i=>toL (w.getD i 0))=X0:=⟨_,rfl⟩
 rw[hX0]
 clear hfr hGr hGp hke h02
 simp[h03,hk3,hkt]
 refine CallL_V (lengths_Out_ok vs os rs hl1) (by simp[dats,LV.dat,hkd]) ?_
 have hz:outZ vs os rs=outV vs:=by simp[outZ,hc]
 rw[hz]
 have hol:(outV vs).length≤vs.length:=by
  rw[outV_those]; exact thoseV_len _ _ _
 simp
 refine loop_nx (fun ρ D G N=>∃ (j:Nat) (v:LV) (X:List (List UInt64)),D=[]∧N+j=(outV vs).length∧lk ρ 4=v∧lk ρ 7=.ptr r 0∧lk ρ 32=.lst (natC (outV vs)) (outV vs).length 1∧lk ρ 33=.i (outV vs).length∧lk ρ 34=.i j∧G3.length≤G.length∧(∀ q,q < G3.length→G[q]?=G3[q]?) ∧
   Rw G3.length G v 1 X.length (X.map LU)∧X=((outV vs).take j).map fun i=>toL (w.getD i 0)) (N:=(outV vs).length)
  ⟨0,.nilSl,[],rfl,by omega,by simp,by simp,by simp,by simp,by simp,by simp,fun q _=>rfl,Rw.nil,by simp⟩ ?_
 rintro N ρ D G ⟨j,v,X,rfl,hN,h4,h7,h32,h33,h34,hl,hfr,hR,hX⟩ Nx hNx
 have hXl:X.length≤vs.length:=by rw[hX]; simp; omega
 by_cases g:j < (outV vs).length
 ·have q1:=natC_at g
  have hu:(outV vs).getD j 0 < vs.length:=by
   rw[List.getD_eq_getElem?_getD,List.getElem?_eq_getElem g]
   exact outV_lt (List.getElem_mem g)
  have hXn:((outV vs).take (j+1)).map (fun i=>toL (w.getD i 0))=X++[toL (w.getD ((outV vs).getD j 0) 0)]:=by
   rw[List.take_succ_eq_append_getElem g,List.map_append,←hX]
   simp[List.getD_eq_getElem?_getD,g]
  generalize (outV vs).getD j 0=u at *
  have qv:=vaC_at (v:=w) (i:=u) (by rw[hwk.1]; exact hu)
  have hxl:=okV_len hv hwk u
  generalize w.getD u 0=x at *
  have hr1:G[r]?=some (.cells (runC vs os rs (.lst ((endsL kdK os).map .i) (endsL kdK os).length 1) (.dy p 0) L) st3):=by rw[hfr r (List.getElem?_eq_some_iff.1 hGr3).1]; exact hGr3
  have hp1:G[p]?=some (.dyn (vaC w) vs.length 1 0 st3'):=by rw[hfr p (List.getElem?_eq_some_iff.1 hGp3).1]; exact hGp3
  simp[h4,h7,h32,h33,h34,g,nthL_at q1,hr1,runC,hp1,hu,nthL_at qv]
  refine CallL_F (nat_Trim_ok (toL x) (by omega)) (by simp) ?_
  simp[RU,val_toL,h4]
  refine Rw.push (m:=1) (x:=[.lst ((toL x).map .u) (toL x).length 1]) hR.push_end (by omega) (by simp; omega) (by omega) rfl fun v' G' hR' hfr' hb'=>?_
  simp[h34]
  refine⟨by omega,hNx _ _ _ ⟨N - 1,by omega,j+1,v',X++[toL x],rfl,by omega,by simp,by simp[h7],by simp[h32],by simp[h33],by simp,hb',fun q hq=>?_,?_,hXn.symm⟩⟩
  ·rw[hfr' q hq,old1 (by omega)]; exact hfr q hq
  ·rw[List.map_append,List.length_append]; exact hR'
 ·rw[List.take_of_length_le (by omega),hX0] at hX
  simp[h4,h7,h32,h33,h34,g,borR,LN]
  rw[←hX]
  have hb:=hR.bor (LN_dats X)
  exact hb
end Go.Proofs.YtnbnhnjffiagmaaGreat
