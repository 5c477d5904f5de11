/- Kernels' meaning: all operations done. -/
import Derived.Test.YtnbnhnjffiagmaaGreatFnNe
namespace Go.Proofs.YtnbnhnjffiagmaaGreat
open Go.Sv
set_option linter.unusedSimpArgs false
set_option maxRecDepth 10000
def c_denote_run_all:LC:=(.seq (.ops [.z 2 (.move (.c (.bool false)))]) (.seq (.ops [.z 8 (.callV (.c (.fn (.func 68) [] [])) []),.m 3 8]) (.seq (.seq (.ops [.z 4 (.move (.c (.i 0)))]) (.block 0 (.loop (.seq (.seq (.ops [.m 9 4,.m 10 0,.z 11 (.nilChk (.t 10)),.f 12 0 11,.f 13 1 12,.l 14 13,.z 15 (.lenSl (.t 14)),.z 16 (.bin .lss false 3 (.t 9) (.t 15))]) (.cond (.t 16) .skip (.exit 0))) (.seq (.block 1 (.seq (.ops [.m 19 0,.z 20 (.nilChk (.t 19)),.f 21 0 20,.f 22 1 21,.l 23 22,.m 24 4,.z 25 (.ixAddr 7 (.t 23) (.t 24)),.z 26 (.loadN 7 (.t 25)),.z 5 (.alloc [(.i 0),(.i 0),(.i 0),(.i 0),(.i 0),(.i 0),(.u 0)]),⟨none,none,.store 7 (.t 5) (.t 26)⟩]) (.seq (.seq (.ops [.m 27 0,.z 28 (.loadN 7 (.t 5)),.z 29 (.callV (.c (.fn (.func 49) [] [])) [.t 27,.t 28]),.z 30 (.un .not (.t 29))]) (.cond (.t 30) (.seq (.ops [.z 2 (.move (.c (.bool false)))]) .ret) .skip)) (.seq (.ops [.f 31 0 5,.l 32 31]) (.block 2 (.seq (.ops [.z 46 (.bin .eql true 3 (.t 32) (.c (.i 15))),.m 45 46]) (.cond (.t 45) (.draw [(.m 47 0,[]),(.m 48 0,[]),(.z 49 (.nilChk (.t 48)),[]),(.f 50 5 49,[]),(.l 51 50,[]),(.m 52 0,[]),(.z 53 (.nilChk (.t 52)),[]),(.f 54 3 53,[]),(.l 55 54,[]),(.m 56 4,[]),(.z 57 (.ixAddr 1 (.t 55) (.t 56)),[]),(.l 58 57,[]),(.f 59 6 5,[]),(.l 60 59,[]),(.z 61 (.build [(.i 0),(.u 0)] [(0,1,.t 58),(1,1,.t 60)]),[]),(.z 62 (.buildSl 2 1 [(.i 0),(.u 0)] [(0,2,.t 61)]),[(.l 60 59,false),(.l 58 57,false),(.l 55 54,false),(.l 51 50,false)]),(.z 63 (.appG 2 (.t 51) (.t 62)),[]),(.z 64 (.nilChk (.t 47)),[]),(.f 65 5 64,[]),(⟨none,none,.store 1 (.t 65) (.t 63)⟩,[])]) (.seq (.ops [.z 67 (.bin .eql true 3 (.t 32) (.c (.i 16))),.m 66 67]) (.cond (.t 66) (.ops [.m 68 0,.m 69 4,.z 70 (.callV (.c (.fn (.func 69) [] [])) [.t 68,.t 69]),.m 4 70]) (.seq (.ops [.z 72 (.bin .eql true 3 (.t 32) (.c (.i 14))),.m 71 72]) (.cond (.t 71) (.seq (.draw [(.m 73 0,[]),(.z 74 (.nilChk (.t 73)),[]),(.f 75 4 74,[]),(.l 76 75,[]),(.f 77 5 5,[]),(.l 78 77,[]),(.z 79 (.ixAddr 1 (.t 76) (.t 78)),[]),(.l 80 79,[]),(.z 81 (.callV (.c (.fn (.func 51) [] [])) [.t 80,.c (.i 0)]),[])]) (.cond (.t 81) (.draw [(.m 82 0,[]),(.z 83 (.nilChk (.t 82)),[]),(.f 84 4 83,[]),(.l 85 84,[]),(.f 86 1 5,[]),(.l 87 86,[]),(.m 88 0,[]),(.z 89 (.nilChk (.t 88)),[]),(.f 90 4 89,[]),(.l 91 90,[]),(.f 92 2 5,[]),(.l 93 92,[]),(.m 94 0,[]),(.z 95 (.nilChk (.t 94)),[]),(.f 96 4 95,[]),(.l 97 96,[]),(.f 98 2 5,[]),(.l 99 98,[]),(.z 100 (.ixAddr 1 (.t 97) (.t 99)),[]),(.l 101 100,[]),(.m 102 0,[]),(.z 103 (.nilChk (.t 102)),[]),(.f 104 4 103,[]),(.l 105 104,[]),(.f 106 1 5,[]),(.l 107 106,[]),(.z 108 (.ixAddr 1 (.t 105) (.t 107)),[]),(.l 109 108,[]),(.z 110 (.ixAddr 1 (.t 85) (.t 87)),[]),(⟨none,none,.store 1 (.t 110) (.t 101)⟩,[(.l 93 92,false)]),(.z 111 (.ixAddr 1 (.t 91) (.t 93)),[]),(⟨none,none,.store 1 (.t 111) (.t 109)⟩,[])]) .skip)) (.seq (.ops [.m 34 3,.f 35 0 5,.l 36 35,.z 37 (.lookup (.int .i64) .nilFn true (.t 34) (.t 36)),.m 33 37,.z 38 (.extract 0 (.t 33)),.z 39 (.extract 1 (.t 33)),.m 6 38,.m 7 39]) (.seq (.ops [.m 40 7]) (.cond (.t 40) (.ops [.m 41 0,.m 42 6,.z 43 (.loadN 7 (.t 5)),.z 44 (.callV (.c (.fn (.func 70) [] [])) [.t 41,.t 42,.t 43])]) .skip)))))))))))))) (.ops [.m 17 4,.z 18 (.bin .add true 3 (.t 17) (.c (.i 1))),.m 4 18])))))) (.seq (.ops [.z 2 (.move (.c (.bool true)))]) .ret))))
theorem r_denote_run_all:resFn Tryz.prog 40=some ⟨112,c_denote_run_all.r,[.tmp 2]⟩:=by kernel_rfl
theorem k_denote_run_all:c_denote_run_all.ok=true:=by kernel_rfl
theorem bit_ok' (x:Nat):(decide ((0:Int)≤0) && (val (toL x)).testBit (0:Int).toNat)=decide (x % 2=1):=by
 simp[val_toL,Nat.testBit_zero]
theorem all_any {G:LHeap} {r p st st' n:Nat} {vs:List Vr} {os rs:List Ko} {v0:List Nat} {res:Option (List Nat)} {K:LV→LHeap→Prop} (hr:G[r]?=some (.cells (runC vs os rs (.lst ((endsL kdK os).map .i) (endsL kdK os).length 1) (.dy p 0) .nilSl) st)) (hp:G[p]?=some (.dyn (vaC v0) vs.length 1 0 st'))
  (hc:chkB vs os rs=true) (hk:okV vs v0) (hn:n≤100000) (hm:mrun vs os (endsL kdK os) n 0 v0 []=some res)
  (k0:res=none→∀ G2,(∀ q,q < G.length→q≠r→q≠p→G2[q]?=G[q]?)→K (.bool false) G2)
  (k1:∀ w,res=some w→okV vs w→∀ G2 L st st',(∀ q,q < G.length→q≠r→q≠p→G2[q]?=G[q]?)→G2[r]?=some (.cells (runC vs os rs (.lst ((endsL kdK os).map .i) (endsL kdK os).length 1) (.dy p 0) L) st)→G2[p]?=some (.dyn (vaC w) vs.length 1 0 st')→K (.bool true) G2):CallL Tryz.prog (.fn 40) [.ptr r 0] G K:=by
 have hrl:r < G.length:=(List.getElem?_eq_some_iff.1 hr).1
 have hpl:p < G.length:=(List.getElem?_eq_some_iff.1 hp).1
 have hv:varsB vs=true:=by unfold chkB at hc; simp only[Bool.and_eq_true] at hc; exact hc.1
 have hvl:vs.length≤256:=(varsB_len hv).2
 have hos:os.length≤4096:=by
  have h:=hc
  unfold chkB at h
  simp only[Bool.and_eq_true,decide_eq_true_eq] at h
  exact h.2.1
 have hone:=chk_all hc
 have hel:(endsL kdK os).length=os.length:=by
  obtain⟨f,w,rfl,_⟩:=chk_tree hc
  rw[endsL_tree w,Fr.ends_len,Fr.flat_len]
 refine call_body r_denote_run_all k_denote_run_all (by simp) ?_
 simp[c_denote_run_all]
 refine table_any fun st0=>?_
 have hend:∀ i o,os[i]?=some o→o.kind=16→0≤gd (endsL kdK os) i∧gd (endsL kdK os) i < os.length:=fun i o h1 h2=>end_at hc h1 h2
 generalize endsL kdK os=es at *
 simp
 refine loop_nx (fun ρ D G' N=>∃ (i:Nat) (v:List Nat) (stk:List (Int×Nat)) (L:LV) (st st':Nat),D=[]∧mrun vs os es N i v stk=some res∧lk ρ 0=.ptr r 0∧lk ρ 3=.map G.length∧lk ρ 4=.i i ∧
   G.length < G'.length∧(∀ q,q < G.length→q≠r→q≠p→G'[q]?=G[q]?)∧G'[r]?=some (.cells (runC vs os rs (.lst (es.map .i) es.length 1) (.dy p 0) L) st)∧G'[p]?=some (.dyn (vaC v) vs.length 1 0 st')∧G'[G.length]?=some (.map tabE 13 st0) ∧
   Stk (G.length+1) G' L 2 stk.length (lpC stk)∧okV vs v∧i≤os.length∧stk.length+N≤n∧∀ x∈stk,1≤x.2∧x.2≤4096) (N:=n)
  ⟨0,v0,[],.nilSl,st,st',rfl,hm,by simp,by simp,by simp,by simp,fun q hq _ _=>old1 hq,by rw[old1 hrl]; exact hr,by rw[old1 hpl]; exact hp,by simp,Stk.nil,hk,by omega,by simp,by simp⟩ ?_
 clear hm hr hp hk
 rintro N ρ D G' ⟨i,v,stk,L,st,st',rfl,hm,h0,h3,h4,hl,hfr,hr,hp,hmp,hst,hk,hi5,hsl,hstk⟩ Nx hNx
 have lr:r < G'.length:=by omega
 have lp:p < G'.length:=by omega
 cases N with
 | zero=>cases hm
 | succ N =>
 rw[mrun_succ] at hm
 by_cases g:i < os.length
 case neg =>
  rw[List.getElem?_eq_none (by omega)] at hm
  have hm:res=some v:=(Option.some.inj hm).symm
  simp[h0,h4,hr,runC,g]
  exact k1 v hm hk _ L st st' hfr hr hp
 have hoi:=at_go g
 have ho:=hone (go os i) (List.mem_of_getElem? hoi)
 have q7:=os_seven hoi
 have hqq:=os_lt g
 have hend:=hend i (go os i) hoi
 rw[hoi] at hm
 dsimp only at hm
 have hf7:(go os i).f=[.i (go os i).kind,.i (go os i).d,.i (go os i).e,.i (go os i).a,.i (go os i).b,.i (go os i).c,.u (go os i).imm]:=rfl
 generalize go os i=o at *
 simp[h0,h4,hr,↓old1 lr,runC,g,q7,hqq,hf7]
 rw[←hf7]
 refine holds_any (v:=v) (by rw[old1 lr]; exact hr) (st':=st') (by rw[old1 lp,hk.1]; exact hp) (fun i=>okV_len hv hk i) fun G2 hke=>?_
 have ho2:G2[G'.length]?=some (.cells o.f 1):=hke.at (by simp)
 have hr2:=hke.pre.at hr
 have hp2:=hke.pre.at hp
 have hm2:=hke.pre.at hmp
 have hst2:=hst.keep fun q _ h=>hke.pre.2 q h
 have hfr2:∀ q,q < G.length→q≠r→q≠p→G2[q]?=G[q]?:=fun q h1 h2 h3=>by rw[hke.pre.2 q (by omega)]; exact hfr q h1 h2 h3
 have hl2:G'.length < G2.length:=(List.getElem?_eq_some_iff.1 ho2).1
 clear hfr hr hp hmp hst hke
 rw[hf7] at ho2
 cases hmet:metB o v with
 | false =>
  rw[hmet] at hm
  have hm:res=none:=by simpa using hm.symm
  simp
  exact k0 hm _ hfr2
 | true =>
 rw[hmet,if_pos rfl] at hm
 have qe:(es.map LV.i)[i]?=some (.i (gd es i)):=map_at (at_getD (by omega))
 have hie:i < es.length:=by omega
 by_cases k15:o.kind=15
 ·rw[if_pos k15] at hm
  have him:=loop_imm ho k15
  have lr2:r < G2.length:=by omega
  rw[k15] at ho2
  simp[h0,h3,h4,hr2,runC,ho2,k15,nthL_at qe,hie,↓old1 hl2,↓old1 lr2]
  refine Stk.push (x:=[.i (gd es i),.u o.imm]) hst2.push_end (by omega) (by simp; omega) (by omega) rfl fun v' G3 hs3 hfr3 hb3=>?_
  have hr3:G3[r]?=some (.cells (runC vs os rs (.lst (es.map .i) es.length 1) (.dy p 0) L) st):=by rw[hfr3 r (by omega),old1 (by omega)]; exact hr2
  simp[-LV.cells,hs3.cells,hr3,runC,h4,cl_i]
  refine⟨by omega,hNx _ _ _ ⟨N,by omega,i+1,v,(gd es i,o.imm.toNat)::stk,v',st+1,st',rfl,hm,by simp[h0],by simp[h3],by simp,by simp; omega,fun q q1 q2 q3=>?_,?_,?_,?_,?_,hk,by omega,by simp; omega,fun x hx=>?_⟩⟩
  ·rw[List.getElem?_set_ne (Ne.symm q2),hfr3 q (by omega),old1 (by omega)]; exact hfr2 q q1 q2 q3
  ·exact List.getElem?_set_self (by omega)
  ·rw[List.getElem?_set_ne (fun e=>by rw[e,hp2] at hr2; cases hr2),hfr3 p (by omega),old1 (by omega)]; exact hp2
  ·rw[List.getElem?_set_ne (by omega),hfr3 _ (by omega),old1 (by omega)]; exact hm2
  ·have h9:=hs3.set_lt (q:=r) (ob:=.cells (runC vs os rs (.lst (es.map .i) es.length 1) (.dy p 0) v') (st+1)) (by omega)
   rw[lpC_cons,List.length_cons]
   simp only[lpF,UInt64.ofNat_toNat]
   exact h9
  ·simp at hx
   rcases hx with rfl | hx
   ·exact him
   ·exact hstk x hx
 by_cases k16:o.kind=16
 ·rw[if_neg k15,if_pos k16] at hm
  cases stk with
  | nil=>cases hm
  | cons x s =>
  obtain⟨e,l⟩:=x
  obtain⟨l1,l2⟩:=hstk (e,l) (List.mem_cons_self ..)
  obtain⟨ge0,ge1⟩:=hend k16
  dsimp only at hm
  simp at hsl
  simp[h0,h3,h4,hr2,runC,ho2,k15,k16]
  refine end_any (b:=G.length+1) (L:=L) (e:=e) (l:=l) (s:=s) hr2 (by omega) (by omega) (by simpa using hst2) hie l1 l2 (by omega) (fun hlt G3 hfr3 hb3 hs3=>?_) (fun hlt G3 L' hfr3 hb3 hr3 hs3=>?_)
  ·rw[if_pos hlt] at hm
   obtain⟨j,hj⟩:=Int.eq_ofNat_of_zero_le ge0
   rw[hj] at hm ge1 ⊢
   simp[h4]
   refine⟨by omega,hNx _ _ _ ⟨N,by omega,j+1,v,(e,l - 1)::s,L,st,st',rfl,hm,by simp[h0],by simp[h3],by simp,by omega,fun q q1 q2 q3=>?_,?_,?_,?_,by simpa using hs3,hk,by omega,by simp; omega,fun x hx=>?_⟩⟩
   ·rw[hfr3 q (by omega)]; exact hfr2 q q1 q2 q3
   ·rw[hfr3 r (by omega)]; exact hr2
   ·rw[hfr3 p (by omega)]; exact hp2
   ·rw[hfr3 _ (by omega)]; exact hm2
   ·rcases List.mem_cons.1 hx with rfl | hx
    ·exact⟨by show 1≤l - 1; omega,by show l - 1≤4096; omega⟩
    ·exact hstk x (List.mem_cons_of_mem _ hx)
  ·rw[if_neg hlt] at hm
   simp[h4]
   refine⟨by omega,hNx _ _ _ ⟨N,by omega,i+1,v,s,L',st+1,st',rfl,hm,by simp[h0],by simp[h3],by simp,by omega,fun q q1 q2 q3=>?_,hr3,?_,?_,hs3,hk,by omega,by omega,fun x hx=>hstk x (List.mem_cons_of_mem _ hx)⟩⟩
   ·rw[hfr3 q (by omega) q2]; exact hfr2 q q1 q2 q3
   ·rw[hfr3 p (by omega) (fun e=>by rw[e,hr2] at hp2; cases hp2)]; exact hp2
   ·rw[hfr3 _ (by omega) (by omega)]; exact hm2
 rw[if_neg k15,if_neg k16] at hm
 have hk2:=step_ok ho k15 k16 hk
 have same:∀ ρ' G3 v2 st'',stepV vs o v=v2→lk ρ' 0=.ptr r 0→lk ρ' 3=.map G.length→lk ρ' 4=.i ((i:Int)+1)→G2.length≤G3.length→(∀ q,q < G2.length→q≠p→G3[q]?=G2[q]?)→G3[p]?=some (.dyn (vaC v2) vs.length 1 0 st'')→(v2=v→True)→Stk (G.length+1) G3 L 2 stk.length (lpC stk)→Nx ρ' [] G3:=by
  rintro ρ' G3 v2 st'' rfl a0 a3 a4 b0 b1 b2 _ b3
  refine hNx _ _ _ ⟨N,by omega,i+1,stepV vs o v,stk,L,st,st'',rfl,hm,a0,a3,by rw[a4]; simp,by omega,fun q q1 q2 q3=>?_,?_,b2,?_,b3,hk2,by omega,by omega,hstk⟩
  ·rw[b1 q (by omega) q3]; exact hfr2 q q1 q2 q3
  ·rw[b1 r (by omega) (fun e=>by rw[e,hp2] at hr2; cases hr2)]; exact hr2
  ·rw[b1 _ (by omega) (by omega)]; exact hm2
 have hkl:=hk.1
 by_cases k14:o.kind=14
 ·obtain⟨⟨d0,d1⟩,⟨e0,e1⟩,⟨c0,c1⟩,hne,_⟩:=swap_parts ho k14
  obtain⟨dn,hd⟩:=Int.eq_ofNat_of_zero_le d0
  obtain⟨en,he⟩:=Int.eq_ofNat_of_zero_le e0
  obtain⟨cn,hcn⟩:=Int.eq_ofNat_of_zero_le c0
  have qc:=vaC_at (v:=v) (i:=cn) (by omega)
  have qd:=vaC_at (v:=v) (i:=dn) (by omega)
  have qen:=vaC_at (v:=v) (i:=en) (by omega)
  have hcl:cn < vs.length:=by omega
  have hdl:dn < vs.length:=by omega
  have hel2:en < vs.length:=by omega
  have gc:gN v o.c=v.getD cn 0:=by rw[hcn,gN_at (by omega)]; rfl
  have gd':gN v o.d=v.getD dn 0:=by rw[hd,gN_at (by omega)]; rfl
  have ge':gN v o.e=v.getD en 0:=by rw[he,gN_at (by omega)]; rfl
  have hsw:stepV vs o v=if v.getD cn 0 % 2=1 then (v.set dn (v.getD en 0)).set en (v.getD dn 0) else v:=by
   unfold stepV
   rw[if_pos k14,gc,gd',ge',hd,he]; rfl
  generalize v.getD cn 0=xc at *
  generalize v.getD dn 0=xd at *
  generalize v.getD en 0=xe at *
  simp[h0,h3,h4,hr2,runC,ho2,k15,k16,k14,hp2,hcn,hcl,nthL_at qc]
  refine CallL_F (nat_Bit_ok (toL xc) 0 (by omega)) (by simp) ?_
  by_cases hodd:xc % 2=1
  ·rw[if_pos hodd] at hsw
   have set1:layLV (vaC v) dn [.lst ((toL xe).map .u) (toL xe).length 1]=vaC (v.set dn xe):=by
    have:layLV (vaC v) dn [LU (toL xe)]=vaC (v.set dn xe):=by rw[lay1 _ _ _ (by rw[vaC_len]; omega),vaC_set]
    exact this
   have set2:layLV (vaC (v.set dn xe)) en [.lst ((toL xd).map .u) (toL xd).length 1]=vaC ((v.set dn xe).set en xd):=by
    have:layLV (vaC (v.set dn xe)) en [LU (toL xd)]=vaC ((v.set dn xe).set en xd):=by rw[lay1 _ _ _ (by rw[vaC_len,List.length_set]; omega),vaC_set]
    exact this
   have lp2:p < G2.length:=(List.getElem?_eq_some_iff.1 hp2).1
   have sp:∀ x,(G2.set p x)[p]?=some x:=fun x=>List.getElem?_set_self lp2
   have sr:∀ x,(G2.set p x)[r]?=some _:=fun x=>by rw[List.getElem?_set_ne (fun e=>by rw[e,hr2] at hp2; cases hp2)]; exact hr2
   have so:∀ x,(G2.set p x)[G'.length]?=some _:=fun x=>by rw[List.getElem?_set_ne (by omega)]; exact ho2
   simp[bit_ok',val_toL,Nat.testBit_zero,hodd,h0,h3,h4,hr2,runC,ho2,hp2,hd,he,hdl,hel2,nthL_at qd,nthL_at qen,vaC_len,hkl,set1,set2,↓sp,↓sr,↓so]
   exact⟨by omega,by omega,by omega,same _ _ _ _ hsw (by simp[h0]) (by simp[h3]) (by simp) (by simp) (fun q _ h=>List.getElem?_set_ne (Ne.symm h)) (sp _) (fun _=>trivial) (hst2.set_lt (by omega))⟩
  ·rw[if_neg hodd] at hsw
   simp[bit_ok',val_toL,Nat.testBit_zero,hodd,h0,h3,h4]
   exact⟨by omega,same _ _ v st' hsw (by simp[h0]) (by simp[h3]) (by simp) (Nat.le_refl _) (fun _ _ _=>rfl) hp2 (fun _=>trivial) hst2⟩
 simp[h0,h3,h4,hr2,runC,ho2,k15,k16,k14,hm2]
 refine tab_find ⟨fun f hf=>?_,fun hf=>?_⟩
 ·simp[h0,ho2]
  rw[←hf7]
  refine make_any (v:=v) hr2 (by rw[hkl]; exact hp2) hv hk ho hmet hf fun G3 b0 b1 b2=>?_
  simp[h4]
  rw[hkl] at b2
  refine⟨by omega,same _ _ _ _ rfl (by simp[h0]) (by simp[h3]) (by simp) b0 b1 b2 (fun _=>trivial) (hst2.keep fun q q1 q2=>b1 q q2 (by omega))⟩
 ·have hsv:stepV vs o v=v:=by
   by_cases k17:o.kind=17
   ·unfold stepV; rw[if_neg k14,if_pos k17]
   ·exfalso
    unfold oneB at ho
    rw[if_neg k17] at ho
    split at ho
    ·cases ho
    ·rename_i s hs
     unfold tabF at hf
     rcases shape_kinds hs with ⟨h,_⟩ | ⟨h,_⟩ | ⟨h | h | h | h | h,_⟩ | ⟨h | h | h | h | h,_⟩ | ⟨h,_⟩ | ⟨h,_⟩ | ⟨h | h,_⟩
     all_goals first | (simp[h] at hf; done) | omega
  simp[h4]
  exact⟨by omega,same _ _ v st' hsv (by simp[h0]) (by simp[h3]) (by simp) (Nat.le_refl _) (fun _ _ _=>rfl) hp2 (fun _=>trivial) hst2⟩
end Go.Proofs.YtnbnhnjffiagmaaGreat
