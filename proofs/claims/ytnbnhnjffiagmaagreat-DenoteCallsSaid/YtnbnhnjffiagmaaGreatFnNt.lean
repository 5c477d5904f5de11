/- DenoteCalls, walked. -/
import Derived.Test.YtnbnhnjffiagmaaGreatFnNs
namespace Go.Proofs.YtnbnhnjffiagmaaGreat
open Go.Sv
set_option linter.unusedSimpArgs false
set_option maxRecDepth 10000
def c_law20_DenoteCalls:LC:=(.seq (.ops [.z 5 (.box (.t 0)),.z 7 (.box (.t 2)),.z 8 (.box (.t 3)),.z 10 (.move (.c (.bool false)))]) (.seq (.seq (.ops [.z 16 (.callV (.c (.fn (.func 9) [] [])) []),.z 17 (.un .not (.t 16))]) (.cond (.t 17) (.seq (.ops [.z 10 (.move (.c (.bool false)))]) .ret) .skip)) (.seq (.seq (.ops [.z 18 (.loadN 3 (.t 5)),.m 19 1,.z 20 (.callV (.c (.fn (.func 20) [] [])) [.t 18,.t 19]),.z 21 (.un .not (.t 20)),.m 22 21,⟨some 23,(some (22,false)),.move (.t 4)⟩,⟨some 24,(some (22,false)),.callV (.c (.fn (.func 21) [] [])) [.t 23,.c (.i 14),.c (.i 14)]⟩,⟨some 25,(some (22,false)),.un .not (.t 24)⟩,.z 26 (.pick (.t 22) (.c (.bool true)) (.t 25))]) (.cond (.t 26) (.seq (.ops [.z 10 (.move (.c (.bool true)))]) .ret) .skip)) (.seq (.draw [(.z 28 (.loadN 3 (.t 5)),[]),(.m 29 1,[]),(.z 30 (.callV (.c (.fn (.func 22) [] [])) [.t 29]),[(.z 28 (.loadN 3 (.t 5)),false)]),(.z 31 (.callV (.c (.fn (.func 11) [] [])) [.t 28,.t 30]),[]),(.m 27 31,[]),(.z 32 (.extract 0 (.t 27)),[]),(.z 33 (.extract 1 (.t 27)),[]),(.m 11 32,[]),(.m 12 33,[])]) (.seq (.ops [.z 35 (.loadN 3 (.t 5)),.m 36 1,.z 37 (.callV (.c (.fn (.func 23) [] [])) [.t 35,.t 36]),.m 34 37,.z 38 (.extract 0 (.t 34)),.z 39 (.extract 1 (.t 34)),.m 13 38,.m 14 39]) (.seq (.seq (.ops [.z 15 (.move (.c (.i 0)))]) (.block 0 (.loop (.seq (.seq (.ops [.m 40 15,.m 41 11,.z 42 (.lenSl (.t 41)),.z 43 (.bin .lss false 3 (.t 40) (.t 42))]) (.cond (.t 43) .skip (.exit 0))) (.seq (.block 1 (.seq (.ops [.m 46 11,.m 47 15,.z 48 (.ixAddr 1 (.t 46) (.t 47)),.l 49 48,.z 50 (.callV (.c (.fn (.func 24) [] [])) [.t 49]),.z 51 (.un .not (.t 50))]) (.cond (.t 51) (.seq (.ops [.z 10 (.move (.c (.bool false)))]) .ret) .skip))) (.ops [.m 44 15,.z 45 (.bin .add true 3 (.t 44) (.c (.i 1))),.m 15 45])))))) (.seq (.draw [(.m 52 11,[]),(.m 53 13,[]),(.z 54 (.callV (.c (.fn (.func 25) [] [])) [.t 52,.t 53]),[]),(.m 55 54,[]),(⟨some 56,(some (55,true)),.move (.t 12)⟩,[]),(⟨some 57,(some (55,true)),.move (.t 14)⟩,[]),(⟨some 58,(some (55,true)),.bin .eql false 32 (.t 56) (.t 57)⟩,[]),(.z 59 (.pick (.t 55) (.t 58) (.c (.bool false))),[]),(.m 60 59,[]),(⟨some 61,(some (60,true)),.loadN 7 (.t 7)⟩,[]),(⟨some 63,(some (60,true)),.loadN 7 (.t 7)⟩,[]),(⟨some 62,(some (60,true)),.callV (.c (.fn (.func 15) [] [])) [.t 61]⟩,[(⟨some 63,(some (60,true)),.loadN 7 (.t 7)⟩,false)]),(⟨some 64,(some (60,true)),.callV (.c (.fn (.func 27) [] [])) [.t 63]⟩,[]),(⟨some 65,(some (60,true)),.callV (.c (.fn (.func 26) [] [])) [.t 62,.t 64]⟩,[]),(.z 66 (.pick (.t 60) (.t 65) (.c (.bool false))),[]),(.m 67 66,[]),(⟨some 68,(some (67,true)),.loadN 3 (.t 8)⟩,[]),(⟨some 69,(some (67,true)),.move (.t 4)⟩,[]),(⟨some 71,(some (67,true)),.loadN 3 (.t 8)⟩,[]),(⟨some 72,(some (67,true)),.move (.t 4)⟩,[]),(⟨some 70,(some (67,true)),.callV (.c (.fn (.func 19) [] [])) [.t 68,.t 69]⟩,[(⟨some 71,(some (67,true)),.loadN 3 (.t 8)⟩,false)]),(⟨some 73,(some (67,true)),.callV (.c (.fn (.func 28) [] [])) [.t 71,.t 72]⟩,[]),(⟨some 74,(some (67,true)),.bin .eql false 4 (.t 70) (.t 73)⟩,[]),(.z 75 (.pick (.t 67) (.t 74) (.c (.bool false))),[]),(.m 76 75,[]),(⟨some 77,(some (76,true)),.loadN 3 (.t 5)⟩,[]),(⟨some 79,(some (76,true)),.loadN 3 (.t 5)⟩,[]),(⟨some 78,(some (76,true)),.callV (.c (.fn (.func 17) [] [])) [.t 77]⟩,[(⟨some 79,(some (76,true)),.loadN 3 (.t 5)⟩,false)]),(⟨some 80,(some (76,true)),.callV (.c (.fn (.func 29) [] [])) [.t 79]⟩,[]),(⟨some 81,(some (76,true)),.bin .eql false 3 (.t 78) (.t 80)⟩,[]),(.z 82 (.pick (.t 76) (.t 81) (.c (.bool false))),[]),(.m 83 82,[]),(⟨some 84,(some (83,true)),.loadN 3 (.t 5)⟩,[]),(⟨some 85,(some (83,true)),.move (.t 1)⟩,[]),(⟨some 87,(some (83,true)),.loadN 3 (.t 5)⟩,[]),(⟨some 88,(some (83,true)),.move (.t 1)⟩,[]),(⟨some 86,(some (83,true)),.callV (.c (.fn (.func 30) [] [])) [.t 84,.t 85]⟩,[(⟨some 87,(some (83,true)),.loadN 3 (.t 5)⟩,false)]),(⟨some 89,(some (83,true)),.callV (.c (.fn (.func 31) [] [])) [.t 87,.t 88]⟩,[]),(⟨some 90,(some (83,true)),.bin .eql false 32 (.t 86) (.t 89)⟩,[]),(.z 91 (.pick (.t 83) (.t 90) (.c (.bool false))),[]),(.m 92 91,[]),(⟨some 93,(some (92,true)),.loadN 3 (.t 5)⟩,[]),(⟨some 94,(some (92,true)),.move (.t 1)⟩,[]),(⟨some 96,(some (92,true)),.loadN 3 (.t 5)⟩,[]),(⟨some 97,(some (92,true)),.move (.t 1)⟩,[]),(⟨some 95,(some (92,true)),.callV (.c (.fn (.func 18) [] [])) [.t 93,.t 94]⟩,[(⟨some 96,(some (92,true)),.loadN 3 (.t 5)⟩,false)]),(⟨some 98,(some (92,true)),.callV (.c (.fn (.func 32) [] [])) [.t 96,.t 97]⟩,[]),(⟨some 99,(some (92,true)),.bin .eql false 4 (.t 95) (.t 98)⟩,[]),(.z 100 (.pick (.t 92) (.t 99) (.c (.bool false))),[]),(.m 10 100,[])]) .ret)))))))
theorem r_law20_DenoteCalls:resFn Tryz.prog 4=some ⟨101,c_law20_DenoteCalls.r,[.tmp 10]⟩:=by kernel_rfl
theorem k_law20_DenoteCalls:c_law20_DenoteCalls.ok=true:=by kernel_rfl
theorem Holds_1_rows {G:LHeap} {p st:Nat} {X:List (List UInt64)} {x:Int} {K:LV→LHeap→Prop} (hp:G[p]?=some (.cells [.lst (X.map LU) X.length 1] st)) (k:K (.bool (thereB X.length x)) G):CallL Tryz.prog (.fn 50) [.i x,.ptr p 0] G K:=by
 refine call_body r_denote_Holds_1 k_denote_Holds_1 (by simp) ?_
 by_cases h:0≤x
 ·simp[c_denote_Holds_1,h,hp]
  simpa [thereB,h] using k
 ·simp[c_denote_Holds_1,h]
  simpa [thereB,h] using k
theorem dHolds_ok (f:Fc) (X:List (List UInt64)) (hv:∀ x∈X,x.length≤1000):FnS Tryz.prog 19 [.agg (fcF f),LN X] (.bool (holdsB f (X.map val))) []:=by
 refine FnS.val rfl (call_body r_denote_Holds k_denote_Holds (by simp) ?_)
 obtain⟨k,a,b⟩:=f
 simp[c_denote_Holds,fcF,LN]
 refine Holds_1_rows (X:=X) (by simp; rfl) ?_
 by_cases ha:thereB X.length a=true
 case neg =>
  simp[ha,holdsB]
 obtain⟨n,rfl,hn⟩:∃ n:Nat,a=n∧n < X.length:=⟨a.toNat,by simp[thereB] at ha; omega,by simp[thereB] at ha; omega⟩
 have qa:=rows_at hn
 have hva:=in_len hv n
 have ga:gN (X.map val) n=val (X.getD n []):=by rw[gN_at (by omega)]; exact vals_at
 obtain⟨x,hx⟩:∃ x,X.getD n []=x:=⟨_,rfl⟩
 have hx3:X[n]=x:=by rw[←hx]; simp[hn]
 rw[hx] at qa hva ga
 simp[ha,holdsB,ga]
 by_cases k1:k=1
 ·simp[k1,hn]
  refine CallL_F (nat_Bit_ok x 0 (by omega)) (by simp[hx3]) ?_
  simp[Nat.testBit_zero]
 by_cases k3:k=3
 ·simp[k1,k3,hn]
  refine CallL_F (nat_Bits_ok x (by omega)) (by simp[hx3]) ?_
  simp
  have:=blen_pos (val x)
  omega
 by_cases k2:k=2
 ·simp[k2]
  refine Holds_1_rows (X:=X) (by simp; rfl) ?_
  by_cases hb:thereB X.length b=true
  case neg=>simp[hb]
  obtain⟨m,rfl,hm⟩:∃ m:Nat,b=m∧m < X.length:=⟨b.toNat,by simp[thereB] at hb; omega,by simp[thereB] at hb; omega⟩
  have hvb:=in_len hv m
  have gb':gN (X.map val) m=val (X.getD m []):=by rw[gN_at (by omega)]; exact vals_at
  obtain⟨y,hy⟩:∃ y,X.getD m []=y:=⟨_,rfl⟩
  have hy3:X[m]=y:=by rw[←hy]; simp[hm]
  rw[hy] at hvb gb'
  simp[hb,hn,hm,gb']
  refine CallL_F (nat_Compare_ok x y (by omega) (by omega)) (by simp[hx3,hy3]) ?_
  simp[cmpN_lt]
 ·simp[k1,k2,k3]
theorem runs_toL {vs:List Vr} {os rs:List Ko} {ns:List Nat}:∀ x∈(runD vs os rs ns).1,∃ n:Nat,x=toL n:=by
 unfold runD
 split
 ·split
  ·split
   ·split
    ·intro x hx; cases hx
    ·intro x hx
     obtain⟨i,_,rfl⟩:=List.mem_map.1 hx
     exact⟨_,rfl⟩
   ·intro x hx; cases hx
  ·intro x hx; cases hx
 ·intro x hx; cases hx
theorem law20_DenoteCalls_run (vs:List Vr) (os rs:List Ko) (ins:List (List UInt64)) (o:Ko) (f:Fc) (v:List (List UInt64)) (hl1:vs.length≤9223372036854775807) (_:os.length≤9223372036854775807) (_:rs.length≤9223372036854775807) (hn:ins.length≤9223372036854775807)
  (hnv:v.length≤9223372036854775807):CallL Tryz.prog (.fn 4) [.agg (kerC vs os rs),LN ins,.agg o.f,.agg (fcF f),LN v] [] fun v _=>v=.bool true:=by
 have hkd:dats (kerC vs os rs)=true:=by simp[kerC,dats,LV.dat,vsC_dats,osC_dats]
 have hdd:dats [.agg (kerC vs os rs),LN ins]=true:=by simp[dats,LV.dat,hkd,LN,LN_dats]
 have hdk:dats [.agg (kerC vs os rs)]=true:=by simp[dats,LV.dat,hkd]
 have hk3:(kerC vs os rs).length=3:=rfl
 have hkt:(kerC vs os rs).take 3=kerC vs os rs:=rfl
 have hf7:o.f=[.i o.kind,.i o.d,.i o.e,.i o.a,.i o.b,.i o.c,.u o.imm]:=rfl
 have hdo:dats [.agg o.f]=true:=by simp[dats,LV.dat,hf7]
 have hdf:dats [.agg (fcF f),LN v]=true:=by simp[dats,LV.dat,fcF,LN,LN_dats]
 have hf3:(fcF f).length=3:=rfl
 have hft:(fcF f).take 3=fcF f:=rfl
 have ho7:o.f.length=7:=rfl
 have hot:o.f.take 7=o.f:=rfl
 refine call_body r_law20_DenoteCalls k_law20_DenoteCalls (by simp) ?_
 simp[c_law20_DenoteCalls]
 refine CallL_F law20_lives_ok (by simp) ?_
 simp[hk3,hkt]
 refine CallL_F (law20_light_ok vs os rs ins hl1 hn) (bors_self _ hdd) ?_
 cases hL:lightD vs os rs ins with
 | false=>simp
 | true =>
 obtain⟨v1,v2,v3,v4,v5,v6⟩:=lightD_parts hL
 have hi:∀ x∈ins,x.length≤1000:=fun x hx=>by have:=v5 x hx; omega
 simp
 refine CallL_F (kit_LightNats_ok v 14 14 hnv) (bors_self _ (by simp[dats,LV.dat,LN,LN_dats])) ?_
 by_cases g5:((v.length:Int)≤14∧∀ x∈v,(x.length:Int)≤14)
 rotate_left
 ·rw[decide_eq_false g5]; simp
 rw[decide_eq_true g5]
 have hv:∀ x∈v,x.length≤1000:=fun x hx=>by have:=g5.2 x hx; omega
 simp[hk3,hkt]
 refine CallL_V (OwnNats_ok ins (by omega) hi) (by simp[dats,LV.dat,LN,LN_dats]) ?_
 simp[hk3,hkt]
 refine CallL_V (Run_ok vs os rs ins hl1 hi) hdd ?_
 simp[hk3,hkt]
 refine CallL_V (rRun_ok vs os rs ins (by omega) hi) hdd ?_
 have hR:=runs_len (vs:=vs) (os:=os) (rs:=rs) (ns:=ins.map val) (by omega)
 have hT:=runs_toL (vs:=vs) (os:=os) (rs:=rs) (ns:=ins.map val)
 generalize hX:(runD vs os rs (ins.map val)).1=X at *
 generalize hE:(runD vs os rs (ins.map val)).2=E at *
 simp
 refine loop_nx (fun ρ D G N=>∃ i:Nat,D=[]∧N+i=X.length∧lk ρ 1=LN ins∧lk ρ 4=LN v∧lk ρ 5=.ptr 0 0∧lk ρ 7=.ptr 1 0∧lk ρ 8=.ptr 2 0∧lk ρ 11=LN X∧lk ρ 12=.i E∧lk ρ 13=LN X∧lk ρ 14=.i E∧lk ρ 15=.i i∧G=[.cells (kerC vs os rs) 0,.cells o.f 0,.cells (fcF f) 0]) (N:=X.length)
  ⟨0,rfl,by omega,by simp,by simp,by simp,by simp,by simp,by simp,by simp,by simp,by simp,by simp,by simp⟩ ?_
 rintro N ρ D G ⟨i,rfl,hN,h1,h4,h5,h7,h8,h11,h12,h13,h14,h15,rfl⟩ Nx hNx
 by_cases g:i < X.length
 ·obtain⟨n,hn2⟩:=hT X[i] (List.getElem_mem g)
  have hxl:=hR.2 X[i] (List.getElem_mem g)
  rw[hn2] at hxl
  simp[h11,h15,g,LN]
  refine CallL_F (kit_Trimmed_ok n (by omega)) (by simp[hn2]) ?_
  simp[h15]
  exact⟨by omega,hNx _ _ _ ⟨N - 1,by omega,i+1,rfl,by omega,by simp[h1],by simp[h4],by simp[h5],by simp[h7],by simp[h8],by simp[h11],by simp[h12],by simp[h13],by simp[h14],by simp,rfl⟩⟩
 simp[h11,h13,h15,g,LN]
 refine same_runs hR hR ?_
 simp[h12,h14,h7,ho7,hot]
 refine CallL_V (Needs_ok o) hdo ?_
 simp[h7,ho7,hot]
 refine CallL_V (rNeeds_ok o) hdo ?_
 simp
 refine CallL_F (kit_SameFacts_ok (needsL o) (needs_len o)) (bors_self _ (by simp[dats,LV.dat,fcC_dats])) ?_
 simp[h8,h4,hf3,hft]
 refine CallL_F (dHolds_ok f v hv) (bors_self _ hdf) ?_
 simp[h8,h4,hf3,hft]
 refine CallL_F (rHolds_ok f v hv) (bors_self _ hdf) ?_
 simp[eqbP,h5,hk3,hkt]
 refine CallL_F (Steps_ok vs os rs hl1) (bors_self _ hdk) ?_
 simp[h5,hk3,hkt]
 refine CallL_F (ref20_Steps_ok vs os rs hl1) (bors_self _ hdk) ?_
 simp[h5,h1,hk3,hkt]
 refine CallL_F (Fits_ok vs os rs ins hl1 hi) (bors_self _ hdd) ?_
 simp[h5,h1,hk3,hkt]
 refine CallL_F (rFits_ok vs os rs ins (by omega) hi) (bors_self _ hdd) ?_
 simp[h5,h1,hk3,hkt]
 refine CallL_F (Met_ok vs os rs ins hl1 hi) (bors_self _ hdd) ?_
 simp[h5,h1,hk3,hkt]
 refine CallL_F (rMet_ok vs os rs ins (by omega) hi) (bors_self _ hdd) ?_
 simp[eqbP]
end Go.Proofs.YtnbnhnjffiagmaaGreat
