/- Chapter 20, the document's: a kernel run; small contracts. -/
import Derived.Test.YtnbnhnjffiagmaaGreatFnNr
namespace Go.Proofs.YtnbnhnjffiagmaaGreat
open Go.Sv
set_option linter.unusedSimpArgs false
set_option maxRecDepth 10000
def c_ref20_Run:LC:=(.seq (.ops [.z 2 (.box (.t 0)),.z 4 (.move (.c .nilSl)),.z 5 (.move (.c (.i 0)))]) (.seq (.ops [.z 11 (.loadN 3 (.t 2)),.m 12 1,.z 13 (.callV (.c (.fn (.func 31) [] [])) [.t 11,.t 12]),.m 6 13]) (.seq (.seq (.ops [.m 14 6,.z 15 (.bin .neq true 32 (.t 14) (.c (.i 0)))]) (.cond (.t 15) (.seq (.ops [.m 16 6,.z 4 (.move (.c .nilSl)),.m 5 16]) .ret) .skip)) (.seq (.seq (.ops [.z 17 (.loadN 3 (.t 2)),.m 18 1,.z 19 (.callV (.c (.fn (.func 32) [] [])) [.t 17,.t 18]),.z 20 (.un .not (.t 19))]) (.cond (.t 20) (.seq (.ops [.z 4 (.move (.c .nilSl)),.z 5 (.move (.c (.i 9)))]) .ret) .skip)) (.seq (.seq (.ops [.z 21 (.loadN 3 (.t 2)),.z 22 (.callV (.c (.fn (.func 29) [] [])) [.t 21]),.z 23 (.bin .gtr true 3 (.t 22) (.c (.i 16384)))]) (.cond (.t 23) (.seq (.ops [.z 4 (.move (.c .nilSl)),.z 5 (.move (.c (.i 10)))]) .ret) .skip)) (.seq (.ops [.z 24 (.loadN 3 (.t 2)),.m 25 1,.z 26 (.callV (.c (.fn (.func 56) [] [])) [.t 24,.t 25]),.m 7 26]) (.seq (.seq (.draw [(.z 27 (.loadN 3 (.t 2)),[]),(.z 28 (.loadN 3 (.t 2)),[]),(.f 30 1 2,[]),(.l 31 30,[]),(.z 32 (.lenSl (.t 31)),[]),(.m 33 7,[]),(.z 29 (.callV (.c (.fn (.func 38) [] [])) [.t 28]),[(.l 31 30,false),(.z 27 (.loadN 3 (.t 2)),false)]),(.z 34 (.callV (.c (.fn (.func 57) [] [])) [.t 27,.t 29,.c (.i 0),.t 32,.t 33]),[]),(.z 35 (.un .not (.t 34)),[])]) (.cond (.t 35) (.seq (.ops [.z 4 (.move (.c .nilSl)),.z 5 (.move (.c (.i 9)))]) .ret) .skip)) (.seq (.ops [.z 36 (.loadN 3 (.t 2)),.z 37 (.callV (.c (.fn (.func 33) [] [])) [.t 36]),.m 8 37]) (.seq (.ops [.z 9 (.move (.c .nilSl))]) (.seq (.seq (.ops [.z 10 (.move (.c (.i 0)))]) (.block 0 (.loop (.seq (.seq (.ops [.m 38 10,.m 39 8,.z 40 (.lenSl (.t 39)),.z 41 (.bin .lss false 3 (.t 38) (.t 40))]) (.cond (.t 41) .skip (.exit 0))) (.seq (.block 1 (.ops [.m 44 9,.m 45 7,.m 46 8,.m 47 10,.z 48 (.ixAddr 1 (.t 46) (.t 47)),.l 49 48,.z 50 (.ixAddr 1 (.t 45) (.t 49)),.l 51 50,.z 52 (.callV (.c (.fn (.func 34) [] [])) [.t 51]),.z 53 (.buildSl 1 1 [.nilSl] [(0,1,.t 52)]),.z 54 (.appG 1 (.t 44) (.t 53)),.m 9 54])) (.ops [.m 42 10,.z 43 (.bin .add true 3 (.t 42) (.c (.i 1))),.m 10 43])))))) (.seq (.ops [.m 55 9,.m 4 55,.z 5 (.move (.c (.i 0)))]) .ret)))))))))))
theorem r_ref20_Run:resFn Tryz.prog 23=some ⟨56,c_ref20_Run.r,[.tmp 4,.tmp 5]⟩:=by kernel_rfl
theorem k_ref20_Run:c_ref20_Run.ok=true:=by kernel_rfl
def c_kit_Trimmed:LC:=(.seq (.ops [.z 2 (.move (.c (.bool false)))]) (.seq (.ops [.m 3 0,.z 4 (.lenSl (.t 3)),.z 5 (.bin .eql true 3 (.t 4) (.c (.i 0))),.m 6 5,⟨some 7,(some (6,false)),.move (.t 0)⟩,⟨some 8,(some (6,false)),.move (.t 0)⟩,⟨some 9,(some (6,false)),.lenSl (.t 8)⟩,⟨some 10,(some (6,false)),.bin .sub true 3 (.t 9) (.c (.i 1))⟩,⟨some 11,(some (6,false)),.ixAddr 1 (.t 7) (.t 10)⟩,⟨some 12,(some (6,false)),.load1 (.t 11)⟩,⟨some 13,(some (6,false)),.bin .neq true 28 (.t 12) (.c (.u 0))⟩,.z 14 (.pick (.t 6) (.c (.bool true)) (.t 13)),.m 2 14]) .ret))
theorem r_kit_Trimmed:resFn Tryz.prog 24=some ⟨15,c_kit_Trimmed.r,[.tmp 2]⟩:=by kernel_rfl
theorem k_kit_Trimmed:c_kit_Trimmed.ok=true:=by kernel_rfl
def c_kit_Same_api_Fact:LC:=(.seq (.ops [.z 4 (.move (.c (.bool false)))]) (.seq (.seq (.ops [.m 6 0,.z 7 (.lenSl (.t 6)),.m 8 1,.z 9 (.lenSl (.t 8)),.z 10 (.bin .neq false 3 (.t 7) (.t 9))]) (.cond (.t 10) (.seq (.ops [.z 4 (.move (.c (.bool false)))]) .ret) .skip)) (.seq (.seq (.ops [.z 5 (.move (.c (.i 0)))]) (.block 0 (.loop (.seq (.seq (.ops [.m 11 5,.m 12 0,.z 13 (.lenSl (.t 12)),.z 14 (.bin .lss false 3 (.t 11) (.t 13))]) (.cond (.t 14) .skip (.exit 0))) (.seq (.block 1 (.seq (.draw [(.m 17 0,[]),(.m 18 5,[]),(.z 19 (.ixAddr 3 (.t 17) (.t 18)),[]),(.z 20 (.loadN 3 (.t 19)),[]),(.m 21 1,[]),(.m 22 5,[]),(.z 23 (.ixAddr 3 (.t 21) (.t 22)),[]),(.z 24 (.loadN 3 (.t 23)),[]),(.z 25 (.bin .neq false 44 (.t 20) (.t 24)),[])]) (.cond (.t 25) (.seq (.ops [.z 4 (.move (.c (.bool false)))]) .ret) .skip))) (.ops [.m 15 5,.z 16 (.bin .add true 3 (.t 15) (.c (.i 1))),.m 5 16])))))) (.seq (.ops [.z 4 (.move (.c (.bool true)))]) .ret))))
theorem r_kit_Same_api_Fact:resFn Tryz.prog 26=some ⟨26,c_kit_Same_api_Fact.r,[.tmp 4]⟩:=by kernel_rfl
theorem k_kit_Same_api_Fact:c_kit_Same_api_Fact.ok=true:=by kernel_rfl
def c_kit_OwnNats:LC:=(.seq (.ops [.z 2 (.move (.c .nilSl))]) (.seq (.ops [.m 5 0,.z 6 (.lenSl (.t 5)),.z 7 (.mkSl 1 [.nilSl] (.t 6) (.t 6)),.m 3 7]) (.seq (.seq (.ops [.z 4 (.move (.c (.i 0)))]) (.block 0 (.loop (.seq (.seq (.ops [.m 8 4,.m 9 0,.z 10 (.lenSl (.t 9)),.z 11 (.bin .lss false 3 (.t 8) (.t 10))]) (.cond (.t 11) .skip (.exit 0))) (.seq (.block 1 (.ops [.m 14 3,.m 15 4,.m 16 0,.m 17 4,.z 18 (.ixAddr 1 (.t 16) (.t 17)),.l 19 18,.z 20 (.callV (.c (.fn (.func 55) [] [])) [.t 19]),.z 21 (.ixAddr 1 (.t 14) (.t 15)),⟨none,none,.store 1 (.t 21) (.t 20)⟩])) (.ops [.m 12 4,.z 13 (.bin .add true 3 (.t 12) (.c (.i 1))),.m 4 13])))))) (.seq (.ops [.m 22 3,.m 2 22]) .ret))))
theorem r_kit_OwnNats:resFn Tryz.prog 22=some ⟨23,c_kit_OwnNats.r,[.tmp 2]⟩:=by kernel_rfl
theorem k_kit_OwnNats:c_kit_OwnNats.ok=true:=by kernel_rfl
theorem rRun_ok (vs:List Vr) (os rs:List Ko) (ins:List (List UInt64)) (hl1:vs.length≤1000000) (hi:∀ x∈ins,x.length≤1000) :
  FnV Tryz.prog 23 [.agg (kerC vs os rs),LN ins] (.tup [LN (runD vs os rs (ins.map val)).1,.i (runD vs os rs (ins.map val)).2]):=by
 have hkd:dats (kerC vs os rs)=true:=by simp[kerC,dats,LV.dat,vsC_dats,osC_dats]
 refine FnV.mk (by simp[LV.dat,dats,LN,LN_dats]) (call_body r_ref20_Run k_ref20_Run (by simp) ?_)
 have hk3:(kerC vs os rs).length=3:=rfl
 have hkt:(kerC vs os rs).take 3=kerC vs os rs:=rfl
 have hk1:(kerC vs os rs)[1]?=some (.lst (osC os) os.length 7):=rfl
 have hdd:dats [.agg (kerC vs os rs),LN ins]=true:=by simp[dats,LV.dat,hkd,LN,LN_dats]
 simp[c_ref20_Run,hk3,hkt]
 refine CallL_F (rFits_ok vs os rs ins hl1 hi) (bors_self _ hdd) ?_
 by_cases hf:fitD vs os rs (ins.map val)=0
 case neg=>simp[hf,runD,borR,bor,LN]
 obtain⟨hc,hn0,hfit⟩:=fitD_parts hf
 have hv:varsB vs=true:=by unfold chkB at hc; simp only[Bool.and_eq_true] at hc; exact hc.1
 have hvl:vs.length≤256:=(varsB_len hv).2
 have hosl:os.length≤4096:=by
  have h:=hc
  unfold chkB at h
  simp only[Bool.and_eq_true,decide_eq_true_eq] at h
  exact h.2.1
 simp[hf,hk3,hkt]
 refine CallL_F (rMet_ok vs os rs ins hl1 hi) (bors_self _ hdd) ?_
 cases hm:metD vs os rs (ins.map val) with
 | false=>simp[hf,hm,runD,borR,bor,LN]
 | true =>
 simp[hk3,hkt]
 refine CallL_F (ref20_Steps_ok vs os rs (by omega)) (bors_self _ (by simp[dats,LV.dat,hkd])) ?_
 by_cases hs:stepsN20 vs os rs≤16384
 case neg =>
  have hs':(16384:Int) < ((stepsN20 vs os rs:Nat):Int):=by omega
  have hs2:¬ ((stepsN20 vs os rs:Nat):Int)≤16384:=by omega
  simp[hf,hm,hs,hs',hs2,runD,borR,bor,LN]
 have hs':¬ (16384:Int) < ((stepsN20 vs os rs:Nat):Int):=by omega
 simp[hs',hk3,hkt]
 refine rstart_any hl1 hi hf fun G2 p st hke hp hGp=>?_
 have hok:=okV_start hfit
 have h02:G2[0]?=some (.cells (kerC vs os rs) 0):=hke.at (by simp)
 have l02:0 < G2.length:=(List.getElem?_eq_some_iff.1 h02).1
 simp at hp
 obtain⟨f,w,hof,_,hone,_⟩:=chk_tree hc
 have hez:endsZ vs os rs=f.ends 0:=by
  simp[endsZ,hc]
  rw[hof]
  exact endsL_tree w
 have hfr:frOf os=f:=by rw[hof]; exact frOf_flat w
 simp[h02,hk3,hkt,nthL_at hk1]
 refine CallL_V (ref19_Ends_ok vs os rs (by omega)) (by simp[dats,LV.dat,hkd]) ?_
 rw[hez]
 have hsz:os.length=f.size:=by rw[hof,Fr.flat_len]
 simp[h02,hk3,hkt,nthL_at hk1]
 have hdo:=do_any (vs:=vs) (os:=os) (rs:=rs) (es:=f.ends 0) hv hosl (by rw[Fr.ends_len,hsz]) f.size f 0 [] [] (Nat.le_refl _) w (by rw[hof]; simp) (by simp) hone (by omega) G2 p st (startW vs (ins.map val))
 rw[Nat.zero_add,←hsz] at hdo
 have hdo:=fun K=>hdo K hGp hok
 refine hdo _ (fun hn G3 hl3 hf3=>?_) (fun w2 hw2 hwk G3 st3 hl3 hf3 hGp3=>?_)
 ·have hres:(frOf os).exec vs (startW vs (ins.map val))=none:=by rw[hfr]; exact hn
  simp[hf,hm,hs,hres,runD,borR,bor,LN]
 have hres:(frOf os).exec vs (startW vs (ins.map val))=some w2:=by rw[hfr]; exact hw2
 have h03:G3[0]?=some (.cells (kerC vs os rs) 0):=by rw[hf3 0 l02 (by omega)]; exact h02
 have hrun:runD vs os rs (ins.map val)=((outV vs).map fun i=>toL (w2.getD i 0),0):=by simp[runD,hf,hm,hs,hres]
 rw[hrun]
 obtain⟨X0,hX0⟩:∃ X0,(outV vs).map (fun i=>toL (w2.getD i 0))=X0:=⟨_,rfl⟩
 rw[hX0]
 clear hf3 hGp hke h02 hdo
 simp[h03,hk3,hkt]
 refine CallL_V (ref19_Out_ok vs os rs hl1) (by simp[dats,LV.dat,hkd]) ?_
 have hz:outZ vs os rs=outV vs:=by simp[outZ,hc]
 rw[hz]
 have hol:(outV vs).length≤vs.length:=by
  rw[outV_those]; exact thoseV_len _ _ _
 simp
 refine loop_nx (fun ρ D G N=>∃ (j:Nat) (v:LV) (X:List (List UInt64)),D=[]∧N+j=(outV vs).length∧lk ρ 7=.dy p 0∧lk ρ 8=.lst (natC (outV vs)) (outV vs).length 1∧lk ρ 9=v∧lk ρ 10=.i j∧G3.length≤G.length∧(∀ q,q < G3.length→G[q]?=G3[q]?) ∧
   Rw G3.length G v 1 X.length (X.map LU)∧X=((outV vs).take j).map fun i=>toL (w2.getD i 0)) (N:=(outV vs).length)
  ⟨0,.nilSl,[],rfl,by omega,by simp,by simp,by simp,by simp,by simp,fun q _=>rfl,Rw.nil,by simp⟩ ?_
 rintro N ρ D G ⟨j,v,X,rfl,hN,h7,h8,h9,h10,hl,hfr,hR,hX⟩ Nx hNx
 have hXl:X.length≤vs.length:=by rw[hX]; simp; omega
 by_cases g:j < (outV vs).length
 ·have q1:=natC_at g
  have hu:(outV vs).getD j 0 < vs.length:=by
   rw[List.getD_eq_getElem?_getD,List.getElem?_eq_getElem g]
   exact outV_lt (List.getElem_mem g)
  have hXn:((outV vs).take (j+1)).map (fun i=>toL (w2.getD i 0))=X++[toL (w2.getD ((outV vs).getD j 0) 0)]:=by
   rw[List.take_succ_eq_append_getElem g,List.map_append,←hX]
   simp[List.getD_eq_getElem?_getD,g]
  generalize (outV vs).getD j 0=u at *
  have qv:=vaC_at (v:=w2) (i:=u) (by rw[hwk.1]; exact hu)
  have hxl:=okV_len hv hwk u
  generalize w2.getD u 0=x at *
  have hp1:G[p]?=some (.dyn (vaC w2) vs.length 1 0 st3):=by rw[hfr p (List.getElem?_eq_some_iff.1 hGp3).1]; exact hGp3
  simp[h7,h8,h9,h10,g,nthL_at q1,hp1,hu,nthL_at qv]
  refine CallL_F (ref02_Trim_ok (toL x) (by omega)) (by simp) ?_
  simp[RU,val_toL,h9]
  refine Rw.push (m:=1) (x:=[.lst ((toL x).map .u) (toL x).length 1]) hR.push_end (by omega) (by simp; omega) (by omega) rfl fun v' G' hR' hfr' hb'=>?_
  simp[h10]
  refine⟨by omega,hNx _ _ _ ⟨N - 1,by omega,j+1,v',X++[toL x],rfl,by omega,by simp[h7],by simp[h8],by simp,by simp,hb',fun q hq=>?_,?_,hXn.symm⟩⟩
  ·rw[hfr' q hq,old1 (by omega)]; exact hfr q hq
  ·rw[List.map_append,List.length_append]; exact hR'
 ·rw[List.take_of_length_le (by omega),hX0] at hX
  simp[h7,h8,h9,h10,g,borR,LN]
  rw[←hX]
  have hb:=hR.bor (LN_dats X)
  exact hb
theorem kit_Trimmed_ok (x:Nat) (hx:(toL x).length≤1000000):FnS Tryz.prog 24 [LU (toL x)] (.bool true) []:=by
 refine FnS.val rfl (call_body r_kit_Trimmed k_kit_Trimmed (by simp) ?_)
 by_cases h0:toL x=[]
 ·simp[c_kit_Trimmed,h0]
 ·obtain⟨n,hn⟩:∃ n,(toL x).length=n+1:=⟨(toL x).length - 1,by have:=List.length_pos_iff.2 h0; omega⟩
  have ht:Trm (toL x):=Trm_toL x
  have hl:(toL x).getD n 0≠0:=by
   rcases ht with h | h
   ·exact absurd h h0
   ·rw[List.getLast?_eq_getElem?,hn] at h
    simpa [List.getD_eq_getElem?_getD] using h
  have hn0:n < (toL x).length:=by omega
  have q:((toL x).map LV.u)[n]?=some (.u ((toL x).getD n 0)):=by
   rw[List.getElem?_map,List.getElem?_eq_getElem hn0,List.getD_eq_getElem?_getD,List.getElem?_eq_getElem hn0]; rfl
  generalize (toL x).getD n 0=y at *
  generalize toL x=l at *
  have hi:((l.length:Int) - 1)=(n:Int):=by omega
  have hnl:n < l.length:=by omega
  have hne:¬ l.length=0:=by omega
  simp[c_kit_Trimmed,hi,hnl,hne,nthL_at q,hl,hn]
  intro _
  have e:l[n]=y:=by simpa [hn0] using q
  exact⟨by omega,by omega,by rw[e]; exact hl⟩
noncomputable def resG:List (Option Bool)→Option Bool
 | []=>some true
 | o::l=>match o with
  | some true=>resG l
  | some false=>some false
  | none=>none
theorem resGs:∀ l:List Bool,resG (l.map some)=some (l.all id)
 | []=>rfl
 | true::l=>by rw[List.map_cons,resG,resGs l]; rfl
 | false::l=>rfl
theorem factEq (a b c d e f:Int):eqA Tryz.prog false 44 (.agg [.int .i64 a,.int .i64 b,.int .i64 c]) (.agg [.int .i64 d,.int .i64 e,.int .i64 f])=resG [some (eqI a d),some (eqI b e),some (eqI c f)]:=by kernel_rfl
theorem factEq2 (a b c:Int):eqA Tryz.prog false 44 (.agg (toAs [.i a,.i b,.i c])) (.agg (toAs [.i a,.i b,.i c]))=some true:=by
 have h:=factEq a b c a b c
 have e:[some (eqI a a),some (eqI b b),some (eqI c c)]=[eqI a a,eqI b b,eqI c c].map some:=rfl
 rw[e,resGs] at h
 refine Eq.trans h ?_
 simp only[eqI_spec,List.all_cons,List.all_nil,Bool.and_true,id]
 simp
theorem kit_SameFacts_ok (a:List Fc) (ha:a.length≤3):FnS Tryz.prog 26 [.lst (fcC a) a.length 3,.lst (fcC a) a.length 3] (.bool true) []:=by
 refine FnS.val rfl (call_body r_kit_Same_api_Fact k_kit_Same_api_Fact (by simp) ?_)
 simp[c_kit_Same_api_Fact]
 refine loop_nx (fun ρ D G N=>∃ i:Nat,D=[]∧N+i=a.length∧lk ρ 0=.lst (fcC a) a.length 3∧lk ρ 1=.lst (fcC a) a.length 3∧lk ρ 5=.i i) (N:=a.length) ⟨0,by simp⟩ ?_
 rintro N ρ D G ⟨i,rfl,hN,h0,h1,h5⟩ Nx hNx
 by_cases g:i < a.length
 ·have hf3:=fc_three g
  have hfl:=fc_lt g
  generalize a[i]=fa at *
  simp[h0,h1,h5,g,hf3,hfl,fcF]
  refine⟨_,rfl,rfl,factEq2 _ _ _,?_⟩
  simp[h5]
  exact⟨by omega,hNx _ _ _ ⟨N - 1,by omega,i+1,rfl,by omega,by simp[h0],by simp[h1],by simp⟩⟩
 ·simp[h0,h1,h5,g]
theorem OwnNats_ok (X:List (List UInt64)) (hn:X.length≤1000) (hi:∀ x∈X,x.length≤1000):FnV Tryz.prog 22 [LN X] (LN X):=by
 refine FnV.mk (by simp[LV.dat,LN,LN_dats]) (call_body r_kit_OwnNats k_kit_OwnNats (by simp) ?_)
 simp[c_kit_OwnNats,LN]
 repeat (refine⟨by omega,?_⟩)
 have hrl:∀ n,(repL [LV.nilSl] n).length=n:=by
  intro n
  induction n with
  | zero=>rfl
  | succ n ih=>simp[repL,ih]
 refine loop_nx (fun ρ D G' N=>∃ (i:Nat) (C:List LV) (st:Nat),D=[]∧N+i=X.length∧lk ρ 0=.lst (X.map LU) X.length 1∧lk ρ 3=.dy 0 0∧lk ρ 4=.i i∧G'=[.dyn C X.length 1 0 st]∧C.length=X.length∧∀ j,j < i→C[j]?=some (LU (X.getD j []))) (N:=X.length)
  ⟨0,repL [.nilSl] X.length,0,rfl,by omega,by simp,by simp,by simp,by simp,hrl _,fun j hj=>by omega⟩ ?_
 rintro N ρ D G' ⟨i,C,st,rfl,hN,h0,h3,h4,rfl,hC,hj⟩ Nx hNx
 by_cases g:i < X.length
 ·have hxl:=in_len hi i
  obtain⟨x,hx⟩:∃ x,X.getD i []=x:=⟨_,rfl⟩
  have hx3:X[i]=x:=by rw[←hx]; simp[g]
  rw[hx] at hxl
  simp[h0,h3,h4,g]
  refine CallL_F (kit_Own_ok x (by omega)) (by simp[hx3]) ?_
  have hc1:layLV C i [.lst (x.map .u) x.length 1]=C.set i (LU x):=lay1 _ _ _ (by omega)
  simp[RU,h0,h3,h4,g,hc1]
  refine⟨by omega,by omega,hNx _ _ _ ⟨N - 1,by omega,i+1,C.set i (LU x),st+1,rfl,by omega,by simp[h0],by simp[h3],by simp,by simp,by simp[hC],fun j hji=>?_⟩⟩
  by_cases e:i=j
  ·subst e
   rw[List.getElem?_set_self (by omega),hx]
  ·rw[List.getElem?_set_ne e]; exact hj j (by omega)
 ·have hi2:i=X.length:=by omega
  subst hi2
  have hCX:C=X.map LU:=by
   refine List.ext_getElem? fun j=>?_
   by_cases h:j < X.length
   ·rw[hj j h]; exact (rows_at h).symm
   ·rw[List.getElem?_eq_none (by omega),List.getElem?_eq_none (by simp; omega)]
  subst hCX
  simp[h0,h3,h4,borR]
end Go.Proofs.YtnbnhnjffiagmaaGreat
