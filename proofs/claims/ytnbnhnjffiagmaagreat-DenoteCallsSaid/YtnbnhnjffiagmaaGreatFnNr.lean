/- Chapter 20, the document's: the operations done, a kernel run. -/
import Derived.Test.YtnbnhnjffiagmaaGreatFnNq
namespace Go.Proofs.YtnbnhnjffiagmaaGreat
open Go.Sv
set_option linter.unusedSimpArgs false
set_option maxRecDepth 10000
def c_ref20_do:LC:=(.seq (.ops [.z 5 (.box (.t 0)),.z 10 (.move (.c (.bool false)))]) (.seq (.seq (.ops [.m 16 2,.m 11 16]) (.block 0 (.loop (.seq (.seq (.ops [.m 17 11,.m 18 3,.z 19 (.bin .lss false 3 (.t 17) (.t 18))]) (.cond (.t 19) .skip (.exit 0))) (.seq (.block 1 (.seq (.ops [.f 22 1 5,.l 23 22,.m 24 11,.z 25 (.ixAddr 7 (.t 23) (.t 24)),.z 26 (.loadN 7 (.t 25)),.z 12 (.alloc [(.i 0),(.i 0),(.i 0),(.i 0),(.i 0),(.i 0),(.u 0)]),⟨none,none,.store 7 (.t 12) (.t 26)⟩]) (.seq (.ops [.z 27 (.loadN 7 (.t 12)),.z 28 (.callV (.c (.fn (.func 27) [] [])) [.t 27]),.m 13 28]) (.seq (.seq (.ops [.z 14 (.move (.c (.i 0)))]) (.block 2 (.loop (.seq (.seq (.ops [.m 29 14,.m 30 13,.z 31 (.lenSl (.t 30)),.z 32 (.bin .lss false 3 (.t 29) (.t 31))]) (.cond (.t 32) .skip (.exit 2))) (.seq (.block 3 (.seq (.ops [.m 35 13,.m 36 14,.z 37 (.ixAddr 3 (.t 35) (.t 36)),.z 38 (.loadN 3 (.t 37)),.m 39 4,.z 40 (.callV (.c (.fn (.func 28) [] [])) [.t 38,.t 39]),.z 41 (.un .not (.t 40))]) (.cond (.t 41) (.seq (.ops [.z 10 (.move (.c (.bool false)))]) .ret) .skip))) (.ops [.m 33 14,.z 34 (.bin .add true 3 (.t 33) (.c (.i 1))),.m 14 34])))))) (.seq (.ops [.f 42 0 12,.l 43 42]) (.block 4 (.seq (.ops [.z 53 (.bin .eql true 3 (.t 43) (.c (.i 17))),.m 52 53]) (.cond (.t 52) .skip (.seq (.ops [.z 55 (.bin .eql true 3 (.t 43) (.c (.i 15))),.m 54 55]) (.cond (.t 54) (.seq (.seq (.ops [.z 15 (.move (.c (.u 0)))]) (.block 5 (.loop (.seq (.seq (.ops [.m 56 15,.f 57 6 12,.l 58 57,.z 59 (.bin .lss false 28 (.t 56) (.t 58))]) (.cond (.t 59) .skip (.exit 5))) (.seq (.block 6 (.seq (.draw [(.z 62 (.loadN 3 (.t 5)),[]),(.m 63 1,[]),(.m 64 11,[]),(.z 65 (.bin .add true 3 (.t 64) (.c (.i 1))),[]),(.m 66 1,[]),(.m 67 11,[]),(.z 68 (.ixAddr 1 (.t 66) (.t 67)),[]),(.l 69 68,[]),(.m 70 4,[]),(.z 71 (.callV (.c (.fn (.func 57) [] [])) [.t 62,.t 63,.t 65,.t 69,.t 70]),[]),(.z 72 (.un .not (.t 71)),[])]) (.cond (.t 72) (.seq (.ops [.z 10 (.move (.c (.bool false)))]) .ret) .skip))) (.ops [.m 60 15,.z 61 (.bin .add true 28 (.t 60) (.c (.u 1))),.m 15 61])))))) (.ops [.m 73 1,.m 74 11,.z 75 (.ixAddr 1 (.t 73) (.t 74)),.l 76 75,.m 11 76])) (.seq (.ops [.z 78 (.bin .eql true 3 (.t 43) (.c (.i 14))),.m 77 78]) (.cond (.t 77) (.seq (.ops [.m 79 4,.f 80 5 12,.l 81 80,.z 82 (.ixAddr 1 (.t 79) (.t 81)),.l 83 82,.z 84 (.callV (.c (.fn (.func 58) [] [])) [.t 83,.c (.i 0)])]) (.cond (.t 84) (.draw [(.m 85 4,[]),(.f 86 1 12,[]),(.l 87 86,[]),(.m 88 4,[]),(.f 89 2 12,[]),(.l 90 89,[]),(.m 91 4,[]),(.f 92 2 12,[]),(.l 93 92,[]),(.z 94 (.ixAddr 1 (.t 91) (.t 93)),[]),(.l 95 94,[]),(.m 96 4,[]),(.f 97 1 12,[]),(.l 98 97,[]),(.z 99 (.ixAddr 1 (.t 96) (.t 98)),[]),(.l 100 99,[]),(.z 101 (.ixAddr 1 (.t 85) (.t 87)),[]),(⟨none,none,.store 1 (.t 101) (.t 95)⟩,[(.l 90 89,false)]),(.z 102 (.ixAddr 1 (.t 88) (.t 90)),[]),(⟨none,none,.store 1 (.t 102) (.t 100)⟩,[])]) .skip)) (.draw [(.m 44 4,[]),(.f 45 1 12,[]),(.l 46 45,[]),(.z 47 (.loadN 3 (.t 5)),[]),(.z 48 (.loadN 7 (.t 12)),[]),(.m 49 4,[]),(.z 50 (.callV (.c (.fn (.func 88) [] [])) [.t 47,.t 48,.t 49]),[(.l 46 45,false)]),(.z 51 (.ixAddr 1 (.t 44) (.t 46)),[]),(⟨none,none,.store 1 (.t 51) (.t 50)⟩,[])]))))))))))))) (.ops [.m 20 11,.z 21 (.bin .add true 3 (.t 20) (.c (.i 1))),.m 11 21])))))) (.seq (.ops [.z 10 (.move (.c (.bool true)))]) .ret)))
theorem r_ref20_do:resFn Tryz.prog 57=some ⟨103,c_ref20_do.r,[.tmp 10]⟩:=by kernel_rfl
theorem k_ref20_do:c_ref20_do.ok=true:=by kernel_rfl
theorem do_any {vs:List Vr} {os rs:List Ko} {es:List Int} (hv:varsB vs=true) (hos:os.length≤4096) (hel:es.length=os.length):∀ (n:Nat) (f:Fr Ko) (i:Nat) (rest:List Ko) (rs':List Int),f.size≤n→f.wf kdK→os.drop i=f.flat++rest→es.drop i=f.ends i++rs'→(∀ o∈f.flat,oneB vs o=true)→i+f.size≤os.length →
  ∀ (G:LHeap) (p st:Nat) (v:List Nat) (K:LV→LHeap→Prop),G[p]?=some (.dyn (vaC v) vs.length 1 0 st)→okV vs v→(f.exec vs v=none→∀ G2,G.length≤G2.length→(∀ q,q < G.length→q≠p→G2[q]?=G[q]?)→K (.bool false) G2) →
   (∀ w,f.exec vs v=some w→okV vs w→∀ G2 st',G.length≤G2.length→(∀ q,q < G.length→q≠p→G2[q]?=G[q]?)→G2[p]?=some (.dyn (vaC w) vs.length 1 0 st')→K (.bool true) G2) →
   CallL Tryz.prog (.fn 57) [.agg (kerC vs os rs),.lst (es.map .i) es.length 1,.i i,.i (i+f.size:Nat),.dy p 0] G K:=by
 intro n
 induction n with
 | zero =>
  intro f i rest rs' hn hw h1 h2 hone hil G p st v K hGp hk k0 k1
  have:f=.nil:=by cases f <;> first | rfl | (simp[Fr.size] at hn)
  subst this
  refine call_body r_ref20_do k_ref20_do (by simp) ?_
  simp[c_ref20_do,Fr.size]
  refine loop_nx (fun ρ D G' N=>D=[]∧lk ρ 3=.i i∧lk ρ 11=.i i∧G'=G++[.cells (kerC vs os rs) 0]) (N:=0) (by simp) ?_
  rintro N ρ D G' ⟨rfl,h3,h11,rfl⟩ Nx hNx
  have hpl:p < G.length:=(List.getElem?_eq_some_iff.1 hGp).1
  simp[h3,h11]
  exact k1 v rfl hk _ st (by simp) (fun q hq _=>old1 hq) (by rw[old1 hpl]; exact hGp)
 | succ n ih =>
  intro f i rest rs' hn hw h1 h2 hone hil G0 p st v0 K hGp hk k0 k1
  have hpl0:p < G0.length:=(List.getElem?_eq_some_iff.1 hGp).1
  have hkd:dats (kerC vs os rs)=true:=by simp[kerC,dats,LV.dat,vsC_dats,osC_dats]
  have di:∀ l:List Int,dats (l.map .i)=true:=fun l=>dats_map (fun _=>rfl) l
  have hk3:(kerC vs os rs).length=3:=rfl
  have hkt:(kerC vs os rs).take 3=kerC vs os rs:=rfl
  have hk1:(kerC vs os rs)[1]?=some (.lst (osC os) os.length 7):=rfl
  refine call_body r_ref20_do k_ref20_do (by simp) ?_
  obtain⟨m,hm⟩:∃ m,i+f.size=m:=⟨_,rfl⟩
  rw[hm]
  simp[c_ref20_do]
  refine loop_nx (fun ρ D G N=>∃ (j:Nat) (r:Fr Ko) (u:List Nat) (z st':Nat),D=[]∧N=r.size∧lk ρ 1=.lst (es.map .i) es.length 1∧lk ρ 3=.i m∧lk ρ 4=.dy p 0∧lk ρ 5=.ptr z 0∧lk ρ 11=.i j∧G0.length≤z∧z < G.length∧G[z]?=some (.cells (kerC vs os rs) 0)∧(∀ q,q < G0.length→q≠p→G[q]?=G0[q]?)∧G[p]?=some (.dyn (vaC u) vs.length 1 0 st')∧okV vs u ∧
    r.wf kdK∧os.drop j=r.flat++rest∧es.drop j=r.ends j++rs'∧j+r.size=m∧r.exec vs u=f.exec vs v0∧r.size≤f.size∧∀ o∈r.flat,oneB vs o=true) (N:=f.size)
   ⟨i,f,v0,G0.length,st,rfl,rfl,by simp,by simp,by simp,by simp,by simp,Nat.le_refl _,by simp,by simp,fun q hq _=>old1 hq,by rw[old1 hpl0]; exact hGp,hk,hw,h1,h2,hm,rfl,Nat.le_refl _,hone⟩ ?_
  clear h1 h2 hGp hk hone
  rintro N ρ D G ⟨j,r,u,z,st',rfl,rfl,h1,h3,h4,h5,h11,hz0,hl,hG,hfr,hGp,hk,hw,hd,he,hj,hx,hrf,hone⟩ Nx hNx
  have hpl:p < G.length:=by omega
  have hpz:p≠z:=by omega
  have hkl:=hk.1
  cases r with
  | nil =>
   simp only[Fr.size,Nat.add_zero] at hj
   simp[h3,h11,hj]
   exact k1 u (by rw[←hx]; rfl) hk _ st' (by omega) hfr hGp
  | op o r =>
   simp only[Fr.size,Fr.flat,Fr.ends,List.cons_append,Fr.exec,Fr.wf] at hj hd he hx hrf hone hw
   obtain⟨hat,hd2⟩:=drop_at hd
   obtain⟨_,he2⟩:=drop_at he
   have g:j < os.length:=(List.getElem?_eq_some_iff.1 hat).1
   have hjm:j < m:=by omega
   have ho:=hone o (by simp)
   have k15:¬ o.kind=15:=fun h=>by have:=hw.1; simp[kdK,h] at this
   have k16:¬ o.kind=16:=fun h=>by have:=hw.1; simp[kdK,h] at this
   have q7:=os_seven hat
   have hqq:=os_lt g
   have hf7:o.f=[.i o.kind,.i o.d,.i o.e,.i o.a,.i o.b,.i o.c,.u o.imm]:=rfl
   have hN1:=rNeeds_ok o
   have hnl3:=needs_len o
   simp[h1,h3,h4,h5,h11,hjm,hG,hk3,nthL_at hk1,g,q7,hqq,hf7]
   rw[←hf7]
   refine CallL_V hN1 (by simp[dats,LV.dat,hf7]) ?_
   simp
   refine loop_nx (fun ρ D G' N=>∃ k st2:Nat,D=[]∧N+k=(needsL o).length∧lk ρ 1=.lst (es.map .i) es.length 1∧lk ρ 3=.i m∧lk ρ 4=.dy p 0∧lk ρ 5=.ptr z 0∧lk ρ 11=.i j∧lk ρ 12=.ptr G.length 0∧lk ρ 13=.lst (fcC (needsL o)) (needsL o).length 3∧lk ρ 14=.i k∧G.length < G'.length∧(∀ q,q < G.length→G'[q]?=G[q]?)∧G'[G.length]?=some (.cells o.f st2)∧((needsL o).take k).all (fun f=>holdsB f u)=true) (N:=(needsL o).length)
    ⟨0,1,rfl,by omega,by simp[h1],by simp[h3],by simp[h4],by simp[h5],by simp[h11],by simp,by simp,by simp,by simp,fun q hq=>old1 hq,by simp,by simp⟩ ?_
   rintro M ρ2 D2 G2 ⟨k,st2,rfl,hM,g1,g3,g4,g5,g11,g12,g13,g14,hl2,hfr2,hc2,hall⟩ Nx2 hNx2
   have hpG:G2[p]?=some (.dyn (vaC u) vs.length 1 0 st'):=by rw[hfr2 p hpl]; exact hGp
   have hzG:G2[z]?=some (.cells (kerC vs os rs) 0):=by rw[hfr2 z hl]; exact hG
   by_cases gk:k < (needsL o).length
   ·have hf3:=fc_three gk
    have hfl:=fc_lt gk
    have hnx:((needsL o).take (k+1)).all (fun f=>holdsB f u)=holdsB (needsL o)[k] u:=by
     rw[List.take_succ_eq_append_getElem gk,List.all_append,hall]; simp
    have hmem:(needsL o)[k]∈needsL o:=List.getElem_mem gk
    generalize (needsL o)[k]=fa at *
    simp[g4,g13,g14,gk,hf3,hfl,fcF]
    rw[show [LV.i fa.1,LV.i fa.2.1,LV.i fa.2.2]=fcF fa from rfl]
    refine rholds_any hv hk hpG ?_
    cases hh:holdsB fa u with
    | false =>
     simp
     have hmf:metB o u=false:=by
      rw[Bool.eq_false_iff]
      intro h
      have h:=List.all_eq_true.1 h _ hmem
      rw[hh] at h; cases h
     refine k0 ?_ G2 (by omega) (fun q hq hqp=>by rw[hfr2 q (by omega)]; exact hfr q hq hqp)
     rw[←hx,hmf]; rfl
    | true =>
     simp[g14]
     exact⟨by omega,hNx2 _ _ _ ⟨M - 1,by omega,k+1,st2,rfl,by omega,by simp[g1],by simp[g3],by simp[g4],by simp[g5],by simp[g11],by simp[g12],by simp[g13],by simp,hl2,hfr2,hc2,by rw[hnx]; exact hh⟩⟩
   rw[List.take_of_length_le (by omega)] at hall
   have hmet:metB o u=true:=hall
   rw[if_pos hmet] at hx
   have hk2:=step_ok ho k15 k16 hk
   have he3:es.drop (j+1)=r.ends (j+1)++rs':=he2
   have lp2:p < G2.length:=by omega
   have same:∀ ρ' G3 st3,lk ρ' 1=.lst (es.map .i) es.length 1→lk ρ' 3=.i m→lk ρ' 4=.dy p 0→lk ρ' 5=.ptr z 0→lk ρ' 11=.i ((j:Int)+1)→G2.length≤G3.length→(∀ q,q < G2.length→q≠p→G3[q]?=G2[q]?)→G3[p]?=some (.dyn (vaC (stepV vs o u)) vs.length 1 0 st3)→Nx ρ' [] G3:=fun ρ' G3 st3 a1 a3 a4 a5 a11 b0 b1 b2 =>
    hNx _ _ _ ⟨r.size,by simp[Fr.size],j+1,r,stepV vs o u,z,st3,rfl,rfl,a1,a3,a4,a5,by rw[a11]; simp,hz0,by omega,by rw[b1 z (by omega) (Ne.symm hpz)]; exact hzG,fun q hq hqp=>by rw[b1 q (by omega) hqp,hfr2 q (by omega)]; exact hfr q hq hqp,b2,hk2,hw.2,hd2,he3,by omega,hx,by omega,fun x hxx=>hone x (List.mem_cons_of_mem _ hxx)⟩
   by_cases k17:o.kind=17
   ·have hst:stepV vs o u=u:=by unfold stepV; rw[if_neg (by omega),if_pos k17]
    rw[hst] at same
    simp[g13,g14,gk,g12,hc2,hf7,k17,g11]
    exact⟨by omega,same _ _ st' (by simp[g1]) (by simp[g3]) (by simp[g4]) (by simp[g5]) (by simp) (Nat.le_refl _) (fun _ _ _=>rfl) hpG⟩
   by_cases k14:o.kind=14
   ·obtain⟨⟨d0,d1⟩,⟨e0,e1⟩,⟨c0,c1⟩,hne,_⟩:=swap_parts ho k14
    obtain⟨dn,hdn⟩:=Int.eq_ofNat_of_zero_le d0
    obtain⟨en,hen⟩:=Int.eq_ofNat_of_zero_le e0
    obtain⟨cn,hcn⟩:=Int.eq_ofNat_of_zero_le c0
    have qc:=vaC_at (v:=u) (i:=cn) (by omega)
    have qd:=vaC_at (v:=u) (i:=dn) (by omega)
    have qen:=vaC_at (v:=u) (i:=en) (by omega)
    have hcl:cn < vs.length:=by omega
    have hdl:dn < vs.length:=by omega
    have hel2:en < vs.length:=by omega
    have gc:gN u o.c=u.getD cn 0:=by rw[hcn,gN_at (by omega)]; rfl
    have gd':gN u o.d=u.getD dn 0:=by rw[hdn,gN_at (by omega)]; rfl
    have ge':gN u o.e=u.getD en 0:=by rw[hen,gN_at (by omega)]; rfl
    have hsw:stepV vs o u=if u.getD cn 0 % 2=1 then (u.set dn (u.getD en 0)).set en (u.getD dn 0) else u:=by
     unfold stepV
     rw[if_pos k14,gc,gd',ge',hdn,hen]; rfl
    have hlc:=okV_len hv hk cn
    generalize u.getD cn 0=xc at *
    generalize u.getD dn 0=xd at *
    generalize u.getD en 0=xe at *
    simp[g13,g14,gk,g12,hc2,hf7,k14,g4,g11,hpG,hcn,hcl,nthL_at qc]
    refine CallL_F (ref02_Bit_ok (toL xc) 0 (by omega)) (by simp) ?_
    by_cases hodd:xc % 2=1
    ·rw[if_pos hodd] at hsw
     rw[hsw] at same
     have set1:layLV (vaC u) dn [.lst ((toL xe).map .u) (toL xe).length 1]=vaC (u.set dn xe):=by
      have:layLV (vaC u) dn [LU (toL xe)]=vaC (u.set dn xe):=by rw[lay1 _ _ _ (by rw[vaC_len]; omega),vaC_set]
      exact this
     have set2:layLV (vaC (u.set dn xe)) en [.lst ((toL xd).map .u) (toL xd).length 1]=vaC ((u.set dn xe).set en xd):=by
      have:layLV (vaC (u.set dn xe)) en [LU (toL xd)]=vaC ((u.set dn xe).set en xd):=by rw[lay1 _ _ _ (by rw[vaC_len,List.length_set]; omega),vaC_set]
      exact this
     have sp:∀ x,(G2.set p x)[p]?=some x:=fun x=>List.getElem?_set_self lp2
     have so:∀ x,(G2.set p x)[G.length]?=some _:=fun x=>by rw[List.getElem?_set_ne (by omega)]; exact hc2
     simp[bit_ok',val_toL,Nat.testBit_zero,hodd,g4,g11,g12,hc2,hf7,hpG,hdn,hen,hdl,hel2,nthL_at qd,nthL_at qen,vaC_len,hkl,set1,set2,↓sp,↓so]
     exact⟨by omega,by omega,by omega,same _ _ _ (by simp[g1]) (by simp[g3]) (by simp[g4]) (by simp[g5]) (by simp) (by simp) (fun q _ h=>List.getElem?_set_ne (Ne.symm h)) (sp _)⟩
    ·rw[if_neg hodd] at hsw
     rw[hsw] at same
     simp[bit_ok',val_toL,Nat.testBit_zero,hodd,g11]
     exact⟨by omega,same _ _ st' (by simp[g1]) (by simp[g3]) (by simp[g4]) (by simp[g5]) (by simp) (Nat.le_refl _) (fun _ _ _=>rfl) hpG⟩
   obtain⟨d0,d1⟩:=d_in ho k17 k15 k16
   obtain⟨dn,hdn⟩:=Int.eq_ofNat_of_zero_le d0
   have hdl:dn < vs.length:=by omega
   have hst:stepV vs o u=u.set dn (opV vs o u):=by unfold stepV; rw[if_neg k14,if_neg k17,hdn]; rfl
   have hset:layLV (vaC u) dn [.lst ((toL (opV vs o u)).map .u) (toL (opV vs o u)).length 1]=vaC (stepV vs o u):=by
    have:layLV (vaC u) dn [LU (toL (opV vs o u))]=vaC (u.set dn (opV vs o u)):=by rw[lay1 _ _ _ (by rw[vaC_len]; omega),vaC_set]
    rw[hst]; exact this
   have htab:∃ f,tabF o.kind=some f:=by
    unfold oneB at ho
    rw[if_neg k17] at ho
    split at ho
    ·cases ho
    ·rename_i s hs
     unfold tabF
     rcases shape_kinds hs with ⟨h,_⟩ | ⟨h,_⟩ | ⟨h | h | h | h | h,_⟩ | ⟨h | h | h | h | h,_⟩ | ⟨h,_⟩ | ⟨h,_⟩ | ⟨h | h,_⟩
     all_goals first | (simp[h]; done) | omega
   obtain⟨fx,hfx⟩:=htab
   simp[g13,g14,gk,g12,hc2,hf7,k17,k15,k14,g4,g5,g11,hzG,hk3,hkt]
   rw[←hf7]
   refine CallL_F (rValue_ok (os:=os) (rs:=rs) hv hk ho hmet hfx) ⟨_,_,rfl,⟨_,rfl,bors_self _ (by simp[dats,LV.dat,hkd])⟩,_,_,rfl,⟨_,rfl,bors_self _ (by simp[dats,LV.dat,hf7])⟩,_,_,rfl,⟨_,_,_,st',rfl,hpG,vaC_dats u⟩,rfl⟩ ?_
   simp[RU,g12,hc2,hf7,hdn,hdl,g4,g11,hpG,vaC_len,hkl,hset]
   exact⟨by omega,by omega,same _ _ _ (by simp[g1]) (by simp[g3]) (by simp[g4]) (by simp[g5]) (by simp) (by simp) (fun q _ h=>List.getElem?_set_ne (Ne.symm h)) (List.getElem?_set_self lp2)⟩
  | loop o b e r =>
   simp only[Fr.size,Fr.flat,Fr.ends,List.cons_append,List.append_assoc,Fr.exec,Fr.wf] at hj hd he hx hrf hone hw
   obtain⟨w1,w2,w3,w4⟩:=hw
   obtain⟨hat,hd2⟩:=drop_at hd
   obtain⟨hae,he2⟩:=drop_at he
   have k15:=kd_1.1 w1
   have a3:=drop_more hd2
   have b3:=drop_more he2
   rw[Fr.flat_len] at a3
   rw[Fr.ends_len] at b3
   obtain⟨_,a5⟩:=drop_at a3
   obtain⟨_,b5⟩:=drop_at b3
   have g:j < os.length:=(List.getElem?_eq_some_iff.1 hat).1
   have gl:j < es.length:=by omega
   have hjm:j < m:=by omega
   have ho:=hone o (by simp)
   have him:=loop_imm ho k15
   have qe:(es.map LV.i)[j]?=some (.i ((j+b.size+1:Nat):Int)):=by rw[List.getElem?_map,hae]; rfl
   have q7:=os_seven hat
   have hqq:=os_lt g
   have hf7:o.f=[.i o.kind,.i o.d,.i o.e,.i o.a,.i o.b,.i o.c,.u o.imm]:=rfl
   have hN1:=rNeeds_ok o
   have hno:needsL o=[]:=by unfold needsL; simp[k15]
   rw[hno] at hN1
   simp[h1,h3,h4,h5,h11,hjm,hG,hk3,nthL_at hk1,g,q7,hqq,hf7]
   rw[←hf7]
   refine CallL_V hN1 (by simp[dats,LV.dat,hf7]) ?_
   simp[fcC]
   refine loop_nx (fun ρ D G' N=>∃ st2:Nat,D=[]∧lk ρ 1=.lst (es.map .i) es.length 1∧lk ρ 3=.i m∧lk ρ 4=.dy p 0∧lk ρ 5=.ptr z 0∧lk ρ 11=.i j∧lk ρ 12=.ptr G.length 0∧lk ρ 13=.lst [] 0 3∧lk ρ 14=.i 0∧G.length < G'.length∧(∀ q,q < G.length→G'[q]?=G[q]?)∧G'[G.length]?=some (.cells o.f st2)) (N:=0)
    ⟨1,rfl,by simp[h1],by simp[h3],by simp[h4],by simp[h5],by simp[h11],by simp,by simp,by simp,by simp,fun q hq=>old1 hq,by simp⟩ ?_
   rintro M ρ2 D2 G2 ⟨st2,rfl,g1,g3,g4,g5,g11,g12,g13,g14,hl2,hfr2,hc2⟩ Nx2 hNx2
   simp[g13,g14,g12,hc2,hf7,k15]
   refine loop_nx (fun ρ D G' N=>∃ (k:Nat) (w:List Nat) (st3:Nat),D=[]∧N+k=o.imm.toNat∧lk ρ 1=.lst (es.map .i) es.length 1∧lk ρ 3=.i m∧lk ρ 4=.dy p 0∧lk ρ 5=.ptr z 0∧lk ρ 11=.i j∧lk ρ 12=.ptr G.length 0∧lk ρ 15=.u (UInt64.ofNat k)∧G.length < G'.length∧(∀ q,q < G.length→q≠p→G'[q]?=G[q]?)∧G'[G.length]?=some (.cells o.f st2)∧G'[p]?=some (.dyn (vaC w) vs.length 1 0 st3)∧okV vs w∧iterO (fun w=>b.exec vs w) (o.imm.toNat - k) w=iterO (fun w=>b.exec vs w) o.imm.toNat u) (N:=o.imm.toNat)
    ⟨0,u,st',rfl,by omega,by simp[g1],by simp[g3],by simp[g4],by simp[g5],by simp[g11],by simp[g12],by simp,hl2,fun q hq _=>hfr2 q hq,hc2,by rw[hfr2 p hpl]; exact hGp,hk,by simp⟩ ?_
   clear hfr2 hc2 hl2
   rintro M ρ2 D2 G2 ⟨k,w,st3,rfl,hM,g1,g3,g4,g5,g11,g12,g15,hl2,hfr2,hc2,hpG,hkw,hit⟩ Nx3 hNx3
   have hzG:G2[z]?=some (.cells (kerC vs os rs) 0):=by rw[hfr2 z hl (Ne.symm hpz)]; exact hG
   have hlt:UInt64.ofNat k < o.imm↔k < o.imm.toNat:=by
    rw[UInt64.lt_iff_toNat_lt,UInt64.toNat_ofNat']
    rw[Nat.mod_eq_of_lt (by omega)]
   by_cases gk:k < o.imm.toNat
   ·have gk':=hlt.2 gk
    rw[show o.imm.toNat - k=(o.imm.toNat - (k+1))+1 by omega,iterO] at hit
    simp[g1,g4,g5,g11,g12,g15,hc2,hf7,gk',hzG,hk3,hkt,gl,nthL_at qe]
    refine⟨by omega,?_⟩
    have hii:=ih b (j+1) (e::(r.flat++rest)) ((j:Int)::(r.ends (j+b.size+2)++rs')) (by omega) w3 hd2 he2 (fun x hxx=>hone x (by simp[hxx])) (by omega) G2 p st3 w
    rw[show j+1+b.size=j+b.size+1 by omega] at hii
    have hii:=fun K=>hii K hpG hkw
    have e1:((j+1:Nat):Int)=(j:Int)+1:=by omega
    have e2:((j+b.size+1:Nat):Int)=(j:Int)+b.size+1:=by omega
    simp only[e1,e2] at hii
    refine hii _ (fun hn G3 c0 c1=>?_) (fun w2 hw2 hk2 G3 st4 c0 c1 c2=>?_)
    ·simp
     rw[hn] at hit
     refine k0 ?_ G3 (by omega) (fun q hq hqp=>by rw[c1 q (by omega) hqp,hfr2 q (by omega) hqp]; exact hfr q hq hqp)
     rw[←hx,←hit]
    ·rw[hw2] at hit
     simp[g15]
     refine hNx3 _ _ _ ⟨M - 1,by omega,k+1,w2,st4,rfl,by omega,by simp[g1],by simp[g3],by simp[g4],by simp[g5],by simp[g11],by simp[g12],?_,by omega,fun q hq hqp=>by rw[c1 q (by omega) hqp]; exact hfr2 q hq hqp,by rw[c1 _ (by omega) (by omega)]; exact hc2,c2,hk2,hit⟩
     simp[addU_eq]
   ·have gk':¬ UInt64.ofNat k < o.imm:=fun h=>gk (hlt.1 h)
    have hk0:o.imm.toNat - k=0:=by omega
    rw[hk0,iterO] at hit
    rw[←hit] at hx
    simp[g1,g11,g12,g15,hc2,hf7,gk',gl,nthL_at qe]
    have hd5:os.drop (j+b.size+2)=r.flat++rest:=by rw[←a5]; congr 1; omega
    have he5:es.drop (j+b.size+2)=r.ends (j+b.size+2)++rs':=by rw[←b5]; congr 1; omega
    refine⟨by omega,hNx _ _ _ ⟨r.size,by simp[Fr.size]; omega,j+b.size+2,r,w,z,st3,rfl,rfl,by simp[g1],by simp[g3],by simp[g4],by simp[g5],by simp; omega,hz0,by omega,hzG,fun q hq hqp=>by rw[hfr2 q (by omega) hqp]; exact hfr q hq hqp,hpG,hkw,w4,hd5,he5,by omega,hx,by omega,fun x hxx=>hone x (by simp[hxx])⟩⟩
end Go.Proofs.YtnbnhnjffiagmaaGreat
