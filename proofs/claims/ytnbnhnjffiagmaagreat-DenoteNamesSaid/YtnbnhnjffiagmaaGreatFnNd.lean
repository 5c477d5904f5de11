/- Kernels' meaning: what may be handed in, the start. -/
import Derived.Test.YtnbnhnjffiagmaaGreatFnNc
namespace Go.Proofs.YtnbnhnjffiagmaaGreat
open Go.Sv
set_option linter.unusedSimpArgs false
set_option maxRecDepth 10000
def c_denote_Fits:LC:=(.seq (.ops [.z 2 (.box (.t 0)),.z 4 (.move (.c (.i 0)))]) (.seq (.seq (.ops [.z 9 (.loadN 3 (.t 2)),.z 10 (.callV (.c (.fn (.func 45) [] [])) [.t 9]),.m 5 10]) (.seq (.ops [.m 11 5,.z 12 (.bin .neq true 32 (.t 11) (.c (.i 0)))]) (.cond (.t 12) (.seq (.ops [.m 13 5,.m 4 13]) .ret) .skip))) (.seq (.ops [.z 14 (.loadN 3 (.t 2)),.z 15 (.callV (.c (.fn (.func 61) [] [])) [.t 14]),.m 6 15]) (.seq (.seq (.ops [.m 16 6,.z 17 (.lenSl (.t 16)),.m 18 1,.z 19 (.lenSl (.t 18)),.z 20 (.bin .neq false 3 (.t 17) (.t 19))]) (.cond (.t 20) (.seq (.ops [.z 4 (.move (.c (.i 2)))]) .ret) .skip)) (.seq (.seq (.ops [.m 21 6,.z 22 (.lenSl (.t 21)),.z 23 (.move (.c (.i 0)))]) (.block 0 (.loop (.seq (.ops [.z 24 (.bin .lss false 3 (.t 23) (.t 22))]) (.seq (.cond (.t 24) .skip (.exit 0)) (.seq (.block 1 (.seq (.ops [.m 25 23,.z 26 (.ixAddr 1 (.t 21) (.t 23)),.l 27 26,.m 7 25,.m 8 27]) (.seq (.draw [(.m 28 1,[]),(.m 29 7,[]),(.z 30 (.ixAddr 1 (.t 28) (.t 29)),[]),(.l 31 30,[]),(.f 34 0 2,[]),(.l 35 34,[]),(.m 36 8,[]),(.z 37 (.ixAddr 3 (.t 35) (.t 36)),[]),(.f 38 0 37,[]),(.l 39 38,[]),(.z 32 (.callV (.c (.fn (.func 42) [] [])) [.t 31]),[(.l 39 38,false),(.l 35 34,false)]),(.z 33 (.lenSl (.t 32)),[]),(.z 40 (.bin .gtr false 3 (.t 33) (.t 39)),[])]) (.cond (.t 40) (.seq (.ops [.z 4 (.move (.c (.i 3)))]) .ret) .skip)))) (.ops [.z 41 (.bin .add true 3 (.t 23) (.c (.i 1))),.m 23 41]))))))) (.seq (.ops [.z 4 (.move (.c (.i 0)))]) .ret))))))
theorem r_denote_Fits:resFn Tryz.prog 30=some ⟨42,c_denote_Fits.r,[.tmp 4]⟩:=by kernel_rfl
theorem k_denote_Fits:c_denote_Fits.ok=true:=by kernel_rfl
def c_denote_start:LC:=(.seq (.ops [.z 2 (.box (.t 0)),.z 4 (.move (.c .nilPtr))]) (.seq (.draw [(.z 8 (.loadN 3 (.t 2)),[]),(.z 9 (.loadN 3 (.t 2)),[]),(.f 11 0 2,[]),(.l 12 11,[]),(.z 13 (.lenSl (.t 12)),[]),(.z 14 (.mkSl 1 [.nilSl] (.t 13) (.t 13)),[(.l 12 11,false),(.z 9 (.loadN 3 (.t 2)),false),(.z 8 (.loadN 3 (.t 2)),false)]),(.z 10 (.callV (.c (.fn (.func 46) [] [])) [.t 9]),[(.z 14 (.mkSl 1 [.nilSl] (.t 13) (.t 13)),true),(.l 12 11,false),(.z 8 (.loadN 3 (.t 2)),false)]),(.z 15 (.build [.nilSl,.nilSl,.nilSl,.nilSl,.nilSl,.nilSl] [(0,3,.t 8),(3,1,.t 10),(4,1,.t 14)]),[]),(.z 16 (.box (.t 15)),[(.z 14 (.mkSl 1 [.nilSl] (.t 13) (.t 13)),true),(.l 12 11,false),(.z 8 (.loadN 3 (.t 2)),false)]),(.m 5 16,[])]) (.seq (.seq (.ops [.z 17 (.loadN 3 (.t 2)),.z 18 (.callV (.c (.fn (.func 61) [] [])) [.t 17]),.z 19 (.lenSl (.t 18)),.z 20 (.move (.c (.i 0)))]) (.block 0 (.loop (.seq (.ops [.z 21 (.bin .lss false 3 (.t 20) (.t 19))]) (.seq (.cond (.t 21) .skip (.exit 0)) (.seq (.block 1 (.seq (.ops [.m 22 20,.z 23 (.ixAddr 1 (.t 18) (.t 20)),.l 24 23,.m 6 22,.m 7 24]) (.draw [(.m 25 5,[]),(.z 26 (.nilChk (.t 25)),[]),(.f 27 4 26,[]),(.l 28 27,[]),(.m 29 7,[]),(.m 30 1,[]),(.m 31 6,[]),(.z 32 (.ixAddr 1 (.t 30) (.t 31)),[]),(.l 33 32,[]),(.z 34 (.callV (.c (.fn (.func 42) [] [])) [.t 33]),[(.l 28 27,false)]),(.z 35 (.ixAddr 1 (.t 28) (.t 29)),[]),(⟨none,none,.store 1 (.t 35) (.t 34)⟩,[])]))) (.ops [.z 36 (.bin .add true 3 (.t 20) (.c (.i 1))),.m 20 36]))))))) (.seq (.ops [.m 37 5,.m 4 37]) .ret))))
theorem r_denote_start:resFn Tryz.prog 39=some ⟨38,c_denote_start.r,[.tmp 4]⟩:=by kernel_rfl
theorem k_denote_start:c_denote_start.ok=true:=by kernel_rfl
theorem lay1 (l:List LV) (i:Nat) (x:LV) (h:i < l.length):layLV l i [x]=l.set i x:=by
 have:=lay_setF (fun x:LV=>x) l i x h
 simpa using this
theorem LN_dats (l:List (List UInt64)):dats (l.map LU)=true:=dats_map (fun _=>LU_dat _) l
theorem in_at {l:List (List UInt64)} {i:Nat} (h:i < l.length):(l.map LU)[i]?=some (LU (l.getD i [])):=by
 simp[List.getD_eq_getElem?_getD,h]
theorem vals_at {l:List (List UInt64)} {i:Nat}:(l.map val).getD i 0=val (l.getD i []):=by
 by_cases h:i < l.length
 ·simp[List.getD_eq_getElem?_getD,h]
 ·simp[List.getD_eq_getElem?_getD,h,val]
theorem in_len {l:List (List UInt64)} {m:Nat} (hi:∀ x∈l,x.length≤m) (i:Nat):(l.getD i []).length≤m:=by
 by_cases h:i < l.length
 ·rw[List.getD_eq_getElem?_getD,List.getElem?_eq_getElem h]
  exact hi _ (List.getElem_mem h)
 ·simp[List.getD_eq_getElem?_getD,h]
theorem Fits_ok (vs:List Vr) (os rs:List Ko) (ins:List (List UInt64)) (hl1:vs.length≤9223372036854775807) (hi:∀ x∈ins,x.length≤1000) :
  FnS Tryz.prog 30 [.agg (kerC vs os rs),LN ins] (.i (fitD vs os rs (ins.map val))) []:=by
 have hkd:dats (kerC vs os rs)=true:=by simp[kerC,dats,LV.dat,vsC_dats,osC_dats]
 refine FnS.val rfl (call_body r_denote_Fits k_denote_Fits (by simp) ?_)
 have hk3:(kerC vs os rs).length=3:=rfl
 have hkt:(kerC vs os rs).take 3=kerC vs os rs:=rfl
 simp[c_denote_Fits,hk3,hkt]
 refine CallL_F (lengths_Check_ok vs os rs hl1) (bors_self _ (by simp[dats,LV.dat,hkd])) ?_
 cases hc:chkB vs os rs with
 | false=>simp[chkE,hc,fitD]
 | true =>
 simp[chkE,hc,hk3,hkt]
 refine CallL_V (lengths_In_ok vs os rs hl1) (by simp[dats,LV.dat,hkd]) ?_
 have hz:inZ vs os rs=Sv.inV vs:=by simp[inZ,hc]
 have hv:varsB vs=true:=by unfold chkB at hc; simp only[Bool.and_eq_true] at hc; exact hc.1
 have hvl:vs.length≤256:=(varsB_len hv).2
 have hil:=Sv.inV_len vs
 rw[hz]
 by_cases hn:(Sv.inV vs).length=ins.length
 case neg =>
  have hn':¬ ((Sv.inV vs).length:Int)=ins.length:=by omega
  simp[LN,hn,hn',fitD,hc]
 have hn':(Sv.inV vs).length=(ins.map val).length:=by simpa using hn
 have hiff:=fitsD_iff hn'
 simp[LN,hn]
 refine loop_nx (fun ρ D G N=>∃ i:Nat,D=[]∧N+i=ins.length∧lk ρ 1=.lst (ins.map LU) ins.length 1∧lk ρ 2=.ptr 0 0∧lk ρ 21=.lst (natC (Sv.inV vs)) ins.length 1∧lk ρ 22=.i ins.length∧lk ρ 23=.i i∧0 < G.length∧G[0]?=some (.cells (kerC vs os rs) 0)∧∀ j,j < i→(ins.map val).getD j 0 < two64 (gv vs ((Sv.inV vs).getD j 0)).limbs) (N:=ins.length)
  ⟨0,rfl,by omega,by simp,by simp,by simp,by simp,by simp,by simp,by simp[kerC],fun j hj=>by omega⟩ ?_
 rintro N ρ D G ⟨i,rfl,hN,h1,h2,h21,h22,h23,hl,hG,hb⟩ Nx hNx
 by_cases g:i < ins.length
 ·have hx:=in_at g
  have hxl:=in_len hi i
  have hxv:(ins.map val).getD i 0=val (ins.getD i []):=vals_at
  have q1:=natC_at (l:=Sv.inV vs) (j:=i) (by omega)
  have hvi:=inV_at (vs:=vs) (j:=i) (by omega)
  have hbi:(ins.map val).getD i 0 < two64 (gv vs ((Sv.inV vs).getD i 0)).limbs↔((toL (val (ins.getD i []))).length:Int)≤(gv vs ((Sv.inV vs).getD i 0)).limbs:=by
   rw[hxv]
   have:=(varsB_limbs hv _ (gv_mem hvi)).1
   exact (long_iff _ _ (by omega)).symm
  obtain⟨u,hu⟩:∃ u,(Sv.inV vs).getD i 0=u:=⟨_,rfl⟩
  obtain⟨x,hx2⟩:∃ x,ins.getD i []=x:=⟨_,rfl⟩
  rw[hu] at q1 hvi hbi
  rw[hx2] at hx hxl hxv hbi
  have hx3:ins[i]=x:=by rw[←hx2]; simp[g]
  have q0:=vs_at0 (at_gv hvi)
  simp[h1,h2,h21,h22,h23,g,hG,kerC,nthL_at q1,nthL_at hx,hvi,nthL_at q0]
  refine CallL_F (nat_Trim_ok x (by omega)) (by simp[hx3]) ?_
  have next:∀ ρ' G',lk ρ' 1=.lst (ins.map LU) ins.length 1→lk ρ' 2=.ptr 0 0→lk ρ' 21=.lst (natC (Sv.inV vs)) ins.length 1→lk ρ' 22=.i ins.length→lk ρ' 23=.i ((i:Int)+1)→0 < G'.length→G'[0]?=some (.cells (kerC vs os rs) 0)→((toL (val x)).length:Int)≤(gv vs u).limbs→Nx ρ' [] G':=by
   intro ρ' G' a1 a2 a21 a22 a23 b1 b2 b3
   refine hNx _ _ _ ⟨N - 1,by omega,i+1,rfl,by omega,a1,a2,a21,a22,by rw[a23]; simp,b1,b2,fun j hj=>?_⟩
   by_cases e:j=i
   ·subst e; rw[hu]; exact hbi.2 b3
   ·exact hb j (by omega)
  by_cases hlong:((toL (val x)).length:Int)≤(gv vs u).limbs
  ·have hlong':¬ (gv vs u).limbs < ((toL (val x)).length:Int):=by omega
   simp[RU,h1,h2,h21,h22,h23,hG,kerC,nthL_at q0,hvi,hlong']
   refine⟨by omega,next _ _ (by simp[h1]) (by simp[h2]) (by simp[h21]) (by simp[h22]) (by simp) hl hG hlong⟩
  ·have hlong':(gv vs u).limbs < ((toL (val x)).length:Int):=by omega
   have hf:fitsD vs (ins.map val)=false:=by
    rw[Bool.eq_false_iff]
    intro h
    have:=hiff.1 h i (by simpa using g)
    rw[hu] at this
    exact hlong (hbi.1 this)
   simp[RU,h1,h2,h21,h22,h23,hG,kerC,nthL_at q0,hvi,hlong',fitD,hc,hn,hf]
 ·have hf:fitsD vs (ins.map val)=true:=hiff.2 fun j hj=>hb j (by simp at hj; omega)
  simp[h21,h22,h23,g,fitD,hc,hn,hf]
theorem start_any {G:LHeap} {vs:List Vr} {os rs:List Ko} {ins:List (List UInt64)} {K:LV→LHeap→Prop} (hl1:vs.length≤9223372036854775807) (hi:∀ x∈ins,x.length≤1000) (hf:fitD vs os rs (ins.map val)=0)
  (k:∀ G2 r p st st',Keep G G2→G.length≤r→G.length≤p→G2[r]?=some (.cells (runC vs os rs (.lst ((endsL kdK os).map .i) (endsL kdK os).length 1) (.dy p 0) .nilSl) st)→G2[p]?=some (.dyn (vaC (startW vs (ins.map val))) vs.length 1 0 st')→K (.ptr r 0) G2) :
  CallL Tryz.prog (.fn 39) [.agg (kerC vs os rs),LN ins] G K:=by
 obtain⟨hc,hn0,hfit⟩:=fitD_parts hf
 have hn:(Sv.inV vs).length=ins.length:=by simpa using hn0
 have hkd:dats (kerC vs os rs)=true:=by simp[kerC,dats,LV.dat,vsC_dats,osC_dats]
 refine call_body r_denote_start k_denote_start (by simp) ?_
 have hv:varsB vs=true:=by unfold chkB at hc; simp only[Bool.and_eq_true] at hc; exact hc.1
 have hvl:vs.length≤256:=(varsB_len hv).2
 have hil:=Sv.inV_len vs
 have hk3:(kerC vs os rs).length=3:=rfl
 have hkt:(kerC vs os rs).take 3=kerC vs os rs:=rfl
 have hk0:(kerC vs os rs)[0]?=some (.lst (vsC vs) vs.length 3):=rfl
 have hez:endsZ vs os rs=endsL kdK os:=by simp[endsZ,hc]
 simp[c_denote_start,hk3,hkt,nthL_at hk0]
 repeat (refine⟨by omega,?_⟩)
 refine CallL_V (lengths_Ends_ok vs os rs hl1) (by simp[dats,LV.dat,hkd]) ?_
 rw[hez]
 simp[hk3,hkt,nthL_at hk0,kerC]
 rw[show [LV.lst (vsC vs) vs.length 3,LV.lst (osC os) os.length 7,LV.lst (osC rs) rs.length 7]=kerC vs os rs from rfl]
 refine CallL_V (lengths_In_ok vs os rs hl1) (by simp[dats,LV.dat,hkd]) ?_
 have hz:inZ vs os rs=Sv.inV vs:=by simp[inZ,hc]
 rw[hz]
 simp
 refine W_cells (p:=G.length+1) (len:=vs.length) (esz:=1) (ver:=0) (st:=0) (l:=repL [.nilSl] vs.length) (l':=vaC (List.replicate vs.length 0)) (by simp) (fun c r h=>start_cells c r h) ?_
 refine loop_nx (fun ρ D G' N=>∃ (i:Nat) (v:List Nat) (st':Nat),D=[]∧N+i=ins.length∧lk ρ 1=.lst (ins.map LU) ins.length 1∧lk ρ 5=.ptr (G.length+2) 0∧lk ρ 18=.lst (natC (Sv.inV vs)) (Sv.inV vs).length 1∧lk ρ 19=.i ins.length∧lk ρ 20=.i i ∧
   G.length+2 < G'.length∧(∀ q,q < G.length→G'[q]?=G[q]?)∧G'[G.length+2]?=some (.cells (runC vs os rs (.lst ((endsL kdK os).map .i) (endsL kdK os).length 1) (.dy (G.length+1) 0) .nilSl) 0)∧G'[G.length+1]?=some (.dyn (vaC v) vs.length 1 0 st')∧v.length=vs.length ∧
   (((Sv.inV vs).zip (ins.map val)).drop i).foldl (fun v p=>v.set p.1 p.2) v=startW vs (ins.map val)) (N:=ins.length)
  ⟨0,List.replicate vs.length 0,1,rfl,by omega,by simp,by simp,by simp,by simp[hn],by simp,by simp,fun q hq=>by rw[List.getElem?_set_ne (by omega),old1 hq],by simp[runC],by simp,by simp,rfl⟩ ?_
 rintro N ρ D G' ⟨i,v,st',rfl,hN,h1,h5,h18,h19,h20,hl,hfr,hr,hp,hvl2,hfold⟩ Nx hNx
 have hrl:G.length+2 < G'.length:=hl
 have hpl:G.length+1 < G'.length:=by omega
 by_cases g:i < ins.length
 ·have hx:=in_at g
  have hxl:=in_len hi i
  have hxv:(ins.map val).getD i 0=val (ins.getD i []):=vals_at
  have q1:=natC_at (l:=Sv.inV vs) (j:=i) (by omega)
  have hvi:=inV_at (vs:=vs) (j:=i) (by omega)
  have hcut:=fill_cut (a:=Sv.inV vs) (b:=ins.map val) (j:=i) (by omega) (by simpa using g) v
  rw[hcut,hxv] at hfold
  obtain⟨u,hu⟩:∃ u,(Sv.inV vs).getD i 0=u:=⟨_,rfl⟩
  obtain⟨x,hx2⟩:∃ x,ins.getD i []=x:=⟨_,rfl⟩
  rw[hu] at q1 hvi hfold
  rw[hx2] at hx hxl hxv hfold
  have hx3:ins[i]=x:=by rw[←hx2]; simp[g]
  have hi2:i < (Sv.inV vs).length:=by omega
  simp[h1,h5,h18,h19,h20,g,hi2,nthL_at q1,hr,runC]
  refine CallL_F (nat_Trim_ok x (by omega)) (by simp[hx3]) ?_
  have set1:layLV (vaC v) u [LU (toL (val x))]=vaC (v.set u (val x)):=by
   rw[lay1 _ _ _ (by rw[vaC_len]; omega),vaC_set]
  have set2:layLV (vaC v) u [.lst ((toL (val x)).map .u) (toL (val x)).length 1]=vaC (v.set u (val x)):=set1
  simp[RU,h20,hr,runC,hp,hvi,vaC_len,hvl2,set2]
  repeat (refine⟨by omega,?_⟩)
  refine hNx _ _ _ ⟨N - 1,by omega,i+1,v.set u (val x),st'+1,rfl,by omega,by simp[h1],by simp[h5],by simp[h18],by simp[h19],by simp,by simp; omega,fun q hq=>?_,?_,?_,by simp[hvl2],hfold⟩
  ·rw[List.getElem?_set_ne (by omega)]; exact hfr q hq
  ·rw[List.getElem?_set_ne (by omega)]; exact hr
  ·rw[List.getElem?_set_self hpl]
 ·simp[h1,h5,h18,h19,h20,g]
  rw[List.drop_of_length_le (by simp; omega)] at hfold
  have hfold:v=startW vs (ins.map val):=hfold
  rw[hfold] at hp
  exact k _ _ _ _ _ ⟨by omega,hfr⟩ (by omega) (by omega) hr hp
end Go.Proofs.YtnbnhnjffiagmaaGreat
