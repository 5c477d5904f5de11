/- Chapter 20, the document's: what may be handed in, the start, what is required. -/
import Derived.Test.YtnbnhnjffiagmaaGreatFnNo
namespace Go.Proofs.YtnbnhnjffiagmaaGreat
open Go.Sv
set_option linter.unusedSimpArgs false
set_option maxRecDepth 10000
def c_ref02_Low:LC:=(.seq (.ops [.z 4 (.move (.c .nilSl))]) (.seq (.ops [.m 5 0,.m 6 0,.z 7 (.lenSl (.t 6)),.m 8 1,.z 9 (.maxi true (.c (.i 0)) (.t 8)),.z 10 (.maxi false (.t 7) (.t 9)),.z 11 (.slSl 1 (.t 5) none (some (.t 10))),.z 12 (.callV (.c (.fn (.func 34) [] [])) [.t 11]),.m 4 12]) .ret))
theorem r_ref02_Low:resFn Tryz.prog 131=some ⟨13,c_ref02_Low.r,[.tmp 4]⟩:=by kernel_rfl
theorem k_ref02_Low:c_ref02_Low.ok=true:=by kernel_rfl
def c_ref20_radix:LC:=(.seq (.ops [.z 2 (.move (.c .nilSl))]) (.seq (.ops [.m 4 0,.z 5 (.bin .add true 3 (.t 4) (.c (.i 1))),.z 6 (.mkSl 1 [(.u 0)] (.t 5) (.t 5)),.m 3 6]) (.seq (.ops [.m 7 3,.m 8 0,.z 9 (.ixAddr 1 (.t 7) (.t 8)),⟨none,none,.store 1 (.t 9) (.c (.u 1))⟩]) (.seq (.ops [.m 10 3,.m 2 10]) .ret))))
theorem r_ref20_radix:resFn Tryz.prog 132=some ⟨11,c_ref20_radix.r,[.tmp 2]⟩:=by kernel_rfl
theorem k_ref20_radix:c_ref20_radix.ok=true:=by kernel_rfl
def c_ref19_In:LC:=(.seq (.ops [.z 1 (.box (.t 0)),.z 2 (.move (.c .nilSl))]) (.seq (.ops [.z 3 (.move (.c .nilSl))]) (.seq (.seq (.ops [.z 4 (.move (.c (.i 0)))]) (.block 0 (.loop (.seq (.seq (.ops [.m 5 4,.f 6 0 1,.l 7 6,.z 8 (.lenSl (.t 7)),.z 9 (.bin .lss false 3 (.t 5) (.t 8)),.m 10 9,⟨some 11,(some (10,true)),.loadN 3 (.t 1)⟩,⟨some 12,(some (10,true)),.callV (.c (.fn (.func 37) [] [])) [.t 11]⟩,⟨some 13,(some (10,true)),.bin .eql true 32 (.t 12) (.c (.i 0))⟩,.z 14 (.pick (.t 10) (.t 13) (.c (.bool false)))]) (.cond (.t 14) .skip (.exit 0))) (.seq (.block 1 (.seq (.ops [.f 17 0 1,.l 18 17,.m 19 4,.z 20 (.ixAddr 3 (.t 18) (.t 19)),.f 21 2 20,.l 22 21,.z 23 (.bin .eql true 3 (.t 22) (.c (.i 1))),.m 24 23,⟨some 25,(some (24,false)),.fieldAddr 0 (.t 1)⟩,⟨some 26,(some (24,false)),.load1 (.t 25)⟩,⟨some 27,(some (24,false)),.move (.t 4)⟩,⟨some 28,(some (24,false)),.ixAddr 3 (.t 26) (.t 27)⟩,⟨some 29,(some (24,false)),.fieldAddr 2 (.t 28)⟩,⟨some 30,(some (24,false)),.load1 (.t 29)⟩,⟨some 31,(some (24,false)),.bin .eql true 3 (.t 30) (.c (.i 2))⟩,.z 32 (.pick (.t 24) (.c (.bool true)) (.t 31))]) (.cond (.t 32) (.ops [.m 33 3,.m 34 4,.z 35 (.buildSl 1 1 [(.i 0)] [(0,1,.t 34)]),.z 36 (.appG 1 (.t 33) (.t 35)),.m 3 36]) .skip))) (.ops [.m 15 4,.z 16 (.bin .add true 3 (.t 15) (.c (.i 1))),.m 4 16])))))) (.seq (.ops [.m 37 3,.m 2 37]) .ret))))
theorem r_ref19_In:resFn Tryz.prog 62=some ⟨38,c_ref19_In.r,[.tmp 2]⟩:=by kernel_rfl
theorem k_ref19_In:c_ref19_In.ok=true:=by kernel_rfl
def c_ref20_Fits:LC:=(.seq (.ops [.z 2 (.box (.t 0)),.z 4 (.move (.c (.i 0)))]) (.seq (.ops [.z 8 (.loadN 3 (.t 2)),.z 9 (.callV (.c (.fn (.func 37) [] [])) [.t 8]),.m 5 9]) (.seq (.seq (.ops [.m 10 5,.z 11 (.bin .neq true 32 (.t 10) (.c (.i 0)))]) (.cond (.t 11) (.seq (.ops [.m 12 5,.m 4 12]) .ret) .skip)) (.seq (.ops [.z 13 (.loadN 3 (.t 2)),.z 14 (.callV (.c (.fn (.func 62) [] [])) [.t 13]),.m 6 14]) (.seq (.seq (.ops [.m 15 6,.z 16 (.lenSl (.t 15)),.m 17 1,.z 18 (.lenSl (.t 17)),.z 19 (.bin .neq false 3 (.t 16) (.t 18))]) (.cond (.t 19) (.seq (.ops [.z 4 (.move (.c (.i 2)))]) .ret) .skip)) (.seq (.seq (.ops [.z 7 (.move (.c (.i 0)))]) (.block 0 (.loop (.seq (.seq (.ops [.m 20 7,.m 21 6,.z 22 (.lenSl (.t 21)),.z 23 (.bin .lss false 3 (.t 20) (.t 22))]) (.cond (.t 23) .skip (.exit 0))) (.seq (.block 1 (.seq (.draw [(.m 26 1,[]),(.m 27 7,[]),(.z 28 (.ixAddr 1 (.t 26) (.t 27)),[]),(.l 29 28,[]),(.f 32 0 2,[]),(.l 33 32,[]),(.m 34 6,[]),(.m 35 7,[]),(.z 36 (.ixAddr 1 (.t 34) (.t 35)),[]),(.l 37 36,[]),(.z 38 (.ixAddr 3 (.t 33) (.t 37)),[]),(.f 39 0 38,[]),(.l 40 39,[]),(.z 30 (.callV (.c (.fn (.func 34) [] [])) [.t 29]),[(.l 40 39,false),(.l 37 36,false),(.l 33 32,false)]),(.z 31 (.lenSl (.t 30)),[]),(.z 41 (.bin .gtr false 3 (.t 31) (.t 40)),[])]) (.cond (.t 41) (.seq (.ops [.z 4 (.move (.c (.i 3)))]) .ret) .skip))) (.ops [.m 24 7,.z 25 (.bin .add true 3 (.t 24) (.c (.i 1))),.m 7 25])))))) (.seq (.ops [.z 4 (.move (.c (.i 0)))]) .ret)))))))
theorem r_ref20_Fits:resFn Tryz.prog 31=some ⟨42,c_ref20_Fits.r,[.tmp 4]⟩:=by kernel_rfl
theorem k_ref20_Fits:c_ref20_Fits.ok=true:=by kernel_rfl
def c_ref20_start:LC:=(.seq (.ops [.z 2 (.box (.t 0)),.z 4 (.move (.c .nilSl))]) (.seq (.ops [.f 8 0 2,.l 9 8,.z 10 (.lenSl (.t 9)),.z 11 (.mkSl 1 [.nilSl] (.t 10) (.t 10)),.m 5 11]) (.seq (.ops [.z 12 (.loadN 3 (.t 2)),.z 13 (.callV (.c (.fn (.func 62) [] [])) [.t 12]),.m 6 13]) (.seq (.seq (.ops [.z 7 (.move (.c (.i 0)))]) (.block 0 (.loop (.seq (.seq (.ops [.m 14 7,.m 15 6,.z 16 (.lenSl (.t 15)),.z 17 (.bin .lss false 3 (.t 14) (.t 16))]) (.cond (.t 17) .skip (.exit 0))) (.seq (.block 1 (.draw [(.m 20 5,[]),(.m 21 6,[]),(.m 22 7,[]),(.z 23 (.ixAddr 1 (.t 21) (.t 22)),[]),(.l 24 23,[]),(.m 25 1,[]),(.m 26 7,[]),(.z 27 (.ixAddr 1 (.t 25) (.t 26)),[]),(.l 28 27,[]),(.z 29 (.callV (.c (.fn (.func 34) [] [])) [.t 28]),[(.l 24 23,false)]),(.z 30 (.ixAddr 1 (.t 20) (.t 24)),[]),(⟨none,none,.store 1 (.t 30) (.t 29)⟩,[])])) (.ops [.m 18 7,.z 19 (.bin .add true 3 (.t 18) (.c (.i 1))),.m 7 19])))))) (.seq (.ops [.m 31 5,.m 4 31]) .ret)))))
theorem r_ref20_start:resFn Tryz.prog 56=some ⟨32,c_ref20_start.r,[.tmp 4]⟩:=by kernel_rfl
theorem k_ref20_start:c_ref20_start.ok=true:=by kernel_rfl
def c_ref20_Met:LC:=(.seq (.ops [.z 2 (.box (.t 0)),.z 4 (.move (.c (.bool false)))]) (.seq (.seq (.ops [.z 7 (.loadN 3 (.t 2)),.m 8 1,.z 9 (.callV (.c (.fn (.func 31) [] [])) [.t 7,.t 8]),.z 10 (.bin .neq true 32 (.t 9) (.c (.i 0)))]) (.cond (.t 10) (.seq (.ops [.z 4 (.move (.c (.bool false)))]) .ret) .skip)) (.seq (.ops [.z 11 (.loadN 3 (.t 2)),.m 12 1,.z 13 (.callV (.c (.fn (.func 56) [] [])) [.t 11,.t 12]),.m 5 13]) (.seq (.seq (.ops [.z 6 (.move (.c (.i 0)))]) (.block 0 (.loop (.seq (.seq (.ops [.m 14 6,.f 15 2 2,.l 16 15,.z 17 (.lenSl (.t 16)),.z 18 (.bin .lss false 3 (.t 14) (.t 17))]) (.cond (.t 18) .skip (.exit 0))) (.seq (.block 1 (.seq (.ops [.f 21 2 2,.l 22 21,.m 23 6,.z 24 (.ixAddr 7 (.t 22) (.t 23)),.z 25 (.loadN 7 (.t 24)),.z 26 (.callV (.c (.fn (.func 27) [] [])) [.t 25]),.z 27 (.ixAddr 3 (.t 26) (.c (.i 0))),.z 28 (.loadN 3 (.t 27)),.m 29 5,.z 30 (.callV (.c (.fn (.func 28) [] [])) [.t 28,.t 29]),.z 31 (.un .not (.t 30))]) (.cond (.t 31) (.seq (.ops [.z 4 (.move (.c (.bool false)))]) .ret) .skip))) (.ops [.m 19 6,.z 20 (.bin .add true 3 (.t 19) (.c (.i 1))),.m 6 20])))))) (.seq (.ops [.z 4 (.move (.c (.bool true)))]) .ret)))))
theorem r_ref20_Met:resFn Tryz.prog 32=some ⟨32,c_ref20_Met.r,[.tmp 4]⟩:=by kernel_rfl
theorem k_ref20_Met:c_ref20_Met.ok=true:=by kernel_rfl
theorem ref02_Low_ok (a:List UInt64) (n:Int) (ha:a.length≤1000000):FnS Tryz.prog 131 [LU a,.i n] (.dy 0 0) [RU (toL (val a % two64 n))]:=by
 refine FnS.row (call_body r_ref02_Low k_ref02_Low (by simp) ?_)
 simp[c_ref02_Low]
 refine⟨by omega,by omega,?_⟩
 rw[←low_val a n]
 obtain⟨m,hm⟩:∃ m,(min (a.length:Int) (max 0 n)).toNat=m:=⟨_,rfl⟩
 have hm2:(min (max 0 n) (a.length:Int)).toNat=m:=by rw[Int.min_comm]; exact hm
 have hl:m≤a.length:=by omega
 have e:(a.take m).length=m:=by simp; omega
 try simp only[hm,hm2]
 refine CallL_S (ref02_Trim_ok (a.take m) (by omega)) (by simp[hm,hm2,e]) ?_
 simp
 exact .inr ⟨0,0,0,rfl,rfl⟩
theorem radix_ok (k:Nat) (hk:k≤512):FnS Tryz.prog 132 [.i k] (.dy 0 0) [RU (List.replicate k 0++[1])]:=by
 refine FnS.row (call_body r_ref20_radix k_ref20_radix (by simp) ?_)
 have hto:((k:Int)+1).toNat=k+1:=by omega
 have hlay:=layU (List.replicate (k+1) 0) k 1 (by simp)
 have e:(List.replicate (k+1) (0:UInt64)).set k 1=List.replicate k 0++[1]:=by
  rw[List.replicate_succ']
  simp[List.set_append]
 rw[e] at hlay
 have hr:repL [LV.u 0] (k+1)=(List.replicate (k+1) (0:UInt64)).map .u:=repU _
 simp only[List.map_replicate] at hlay hr
 simp[c_ref20_radix,hto,hr,hlay]
 refine⟨by omega,by omega,by omega,by omega,?_⟩
 exact .inr ⟨0,0,1,rfl,by simp⟩
theorem ref19_In_ok (vs:List Vr) (os rs:List Ko) (hl1:vs.length≤1000000):FnV Tryz.prog 62 [.agg (kerC vs os rs)] (.lst (natC (inZ vs os rs)) (inZ vs os rs).length 1):=by
 have hkd:dats (kerC vs os rs)=true:=by simp[kerC,dats,LV.dat,vsC_dats,osC_dats]
 refine FnV.mk (by simp[LV.dat,natC_dats]) (call_body r_ref19_In k_ref19_In (by simp) ?_)
 have hk3:(kerC vs os rs).length=3:=rfl
 have hkt:(kerC vs os rs).take 3=kerC vs os rs:=rfl
 have hk0:(kerC vs os rs)[0]?=some (.lst (vsC vs) vs.length 3):=rfl
 simp[c_ref19_In]
 refine loop_nx (fun ρ D G N=>∃ (i:Nat) (v:LV),D=[]∧N+i=vs.length∧lk ρ 1=.ptr 0 0∧lk ρ 3=v∧lk ρ 4=.i i∧0 < G.length∧G[0]?=some (.cells (kerC vs os rs) 0)∧(chkB vs os rs=true∨i=0)∧Rw 1 G v 1 (thoseV givenB vs i).length (natC (thoseV givenB vs i))) (N:=vs.length)
  ⟨0,.nilSl,rfl,by omega,by simp,by simp,by simp,by simp,by simp,by simp,by simpa [thoseV,natC] using Rw.nil⟩ ?_
 rintro N ρ D G ⟨i,v,rfl,hN,h1,h3,h4,hl,hG,hck,hR⟩ Nx hNx
 have htl:=thoseV_len givenB vs i
 by_cases g:i < vs.length
 ·simp[h1,h3,h4,g,hG,hk3,hkt,nthL_at hk0]
  refine CallL_F (ref19_Check_ok vs os rs (by omega)) (bors_self _ (by simp[dats,LV.dat,hkd])) ?_
  cases hc:chkB vs os rs with
  | false =>
   rw[hc] at hck
   have hi:i=0:=by simpa using hck
   subst hi
   have hb:=hR.bor (natC_dats _)
   simp[chkE,hc,h3,inZ]
   rcases hR with ⟨rfl,_⟩ | ⟨p,k,st,_,rfl,hp,_⟩
   ·simp[borR,bor,natC]
   ·simpa [borR,thoseV,natC] using hb
  | true =>
   have q2:=vs_at2 (at_gv g)
   have hqq:=vs_lt g
   have ht:=thoseV_succ givenB vs i
   generalize gv vs i=x at *
   have push:∀ ρ',givenB x=true→lk ρ' 1=.ptr 0 0→lk ρ' 4=.i i→True:=fun _ _ _ _=>trivial
   clear push
   by_cases hm1:x.mode=1
   ·have hgb:givenB x=true:=by simp[givenB,hm1]
    simp[chkE,hc,h1,h3,h4,g,hG,hk3,hkt,nthL_at hk0,nthL_at q2,hm1]
    rw[hgb] at ht
    simp at ht
    refine Rw.push (m:=1) (x:=[.i i]) hR.push_end (by omega) (by simp) (by omega) rfl fun v' G' hR' hfr hb=>?_
    simp[h4]
    refine⟨by omega,hNx _ _ _ ⟨N - 1,by omega,i+1,v',rfl,by omega,by simp[h1],by simp,by simp,by omega,by rw[hfr 0 (by omega),old1 hl]; exact hG,.inl hc,?_⟩⟩
    rw[ht]
    simpa [natC] using hR'
   by_cases hm2:x.mode=2
   ·have hgb:givenB x=true:=by simp[givenB,hm2]
    simp[chkE,hc,h1,h3,h4,g,hG,hk3,hkt,nthL_at hk0,nthL_at q2,hm2]
    rw[hgb] at ht
    simp at ht
    refine Rw.push (m:=1) (x:=[.i i]) hR.push_end (by omega) (by simp) (by omega) rfl fun v' G' hR' hfr hb=>?_
    simp[h4]
    refine⟨by omega,hNx _ _ _ ⟨N - 1,by omega,i+1,v',rfl,by omega,by simp[h1],by simp,by simp,by omega,by rw[hfr 0 (by omega),old1 hl]; exact hG,.inl hc,?_⟩⟩
    rw[ht]
    simpa [natC] using hR'
   ·have hgb:givenB x=false:=by simp[givenB,hm1,hm2]
    simp[chkE,hc,h1,h3,h4,g,hG,hk3,hkt,nthL_at hk0,nthL_at q2,hm1,hm2]
    rw[hgb] at ht
    simp at ht
    exact⟨by omega,hNx _ _ _ ⟨N - 1,by omega,i+1,v,rfl,by omega,by simp[h1],by simp[h3],by simp,hl,hG,.inl hc,by rw[ht]; exact hR⟩⟩
 ·have hi:i=vs.length:=by omega
  subst hi
  have hb:=hR.bor (natC_dats _)
  have hz:inZ vs os rs=thoseV givenB vs vs.length:=by
   unfold inZ
   rcases hck with hc | hi
   ·rw[if_pos hc,inV_those]
   ·split
    ·rw[inV_those]
    ·rw[hi]; rfl
  rw[hz]
  simp[h1,h3,h4,hG,hk3,hkt,nthL_at hk0]
  rcases hR with ⟨rfl,_⟩ | ⟨p,k,st,_,rfl,_,_⟩ <;> exact hb
theorem rFits_ok (vs:List Vr) (os rs:List Ko) (ins:List (List UInt64)) (hl1:vs.length≤1000000) (hi:∀ x∈ins,x.length≤1000) :
  FnS Tryz.prog 31 [.agg (kerC vs os rs),LN ins] (.i (fitD vs os rs (ins.map val))) []:=by
 have hkd:dats (kerC vs os rs)=true:=by simp[kerC,dats,LV.dat,vsC_dats,osC_dats]
 refine FnS.val rfl (call_body r_ref20_Fits k_ref20_Fits (by simp) ?_)
 have hk3:(kerC vs os rs).length=3:=rfl
 have hkt:(kerC vs os rs).take 3=kerC vs os rs:=rfl
 simp[c_ref20_Fits,hk3,hkt]
 refine CallL_F (ref19_Check_ok vs os rs (by omega)) (bors_self _ (by simp[dats,LV.dat,hkd])) ?_
 cases hc:chkB vs os rs with
 | false=>simp[chkE,hc,fitD]
 | true =>
 simp[chkE,hc,hk3,hkt]
 refine CallL_V (ref19_In_ok vs os rs hl1) (by simp[dats,LV.dat,hkd]) ?_
 have hz:inZ vs os rs=Sv.inV vs:=by simp[inZ,hc]
 have hv:varsB vs=true:=by unfold chkB at hc; simp only[Bool.and_eq_true] at hc; exact hc.1
 have hvl:vs.length≤256:=(varsB_len hv).2
 have hil:=inV_len vs
 rw[hz]
 by_cases hn:(Sv.inV vs).length=ins.length
 case neg =>
  have hn':¬ ((Sv.inV vs).length:Int)=ins.length:=by omega
  simp[LN,hn,hn',fitD,hc]
 have hn':(Sv.inV vs).length=(ins.map val).length:=by simpa using hn
 have hiff:=fitsD_iff hn'
 simp[LN,hn]
 refine loop_nx (fun ρ D G N=>∃ i:Nat,D=[]∧N+i=ins.length∧lk ρ 1=.lst (ins.map LU) ins.length 1∧lk ρ 2=.ptr 0 0∧lk ρ 6=.lst (natC (Sv.inV vs)) ins.length 1∧lk ρ 7=.i i∧0 < G.length∧G[0]?=some (.cells (kerC vs os rs) 0)∧∀ j,j < i→(ins.map val).getD j 0 < two64 (gv vs ((Sv.inV vs).getD j 0)).limbs) (N:=ins.length)
  ⟨0,rfl,by omega,by simp,by simp,by simp,by simp,by simp,by simp[kerC],fun j hj=>by omega⟩ ?_
 rintro N ρ D G ⟨i,rfl,hN,h1,h2,h6,h7,hl,hG,hb⟩ Nx hNx
 by_cases g:i < ins.length
 ·have hxl:=in_len hi i
  have hxv:(ins.map val).getD i 0=val (ins.getD i []):=vals_at
  have q1:=natC_at (l:=Sv.inV vs) (j:=i) (by omega)
  have hvi:=inV_at (vs:=vs) (j:=i) (by omega)
  have hbi:(ins.map val).getD i 0 < two64 (gv vs ((Sv.inV vs).getD i 0)).limbs↔((toL (val (ins.getD i []))).length:Int)≤(gv vs ((Sv.inV vs).getD i 0)).limbs:=by
   rw[hxv]
   have:=(varsB_limbs hv _ (gv_mem hvi)).1
   exact (long_iff _ _ (by omega)).symm
  obtain⟨u,hu⟩:∃ u,(Sv.inV vs).getD i 0=u:=⟨_,rfl⟩
  obtain⟨x,hx2⟩:∃ x,ins.getD i []=x:=⟨_,rfl⟩
  rw[hu] at q1 hvi hbi
  rw[hx2] at hxl hxv hbi
  have hx3:ins[i]=x:=by rw[←hx2]; simp[g]
  have q0:=vs_at0 (at_gv hvi)
  simp[h1,h2,h6,h7,g,hG,kerC,nthL_at q1,hvi,nthL_at q0]
  refine CallL_F (ref02_Trim_ok x (by omega)) (by simp[hx3]) ?_
  by_cases hlong:((toL (val x)).length:Int)≤(gv vs u).limbs
  ·have hlong':¬ (gv vs u).limbs < ((toL (val x)).length:Int):=by omega
   simp[RU,h1,h2,h6,h7,hG,kerC,nthL_at q0,nthL_at q1,g,hvi,hlong']
   refine⟨by omega,hNx _ _ _ ⟨N - 1,by omega,i+1,rfl,by omega,by simp[h1],by simp[h2],by simp[h6],by simp,hl,hG,fun j hj=>?_⟩⟩
   by_cases e:j=i
   ·subst e; rw[hu]; exact hbi.2 hlong
   ·exact hb j (by omega)
  ·have hlong':(gv vs u).limbs < ((toL (val x)).length:Int):=by omega
   have hf:fitsD vs (ins.map val)=false:=by
    rw[Bool.eq_false_iff]
    intro h
    have:=hiff.1 h i (by simpa using g)
    rw[hu] at this
    exact hlong (hbi.1 this)
   simp[RU,h1,h2,h6,h7,hG,kerC,nthL_at q0,nthL_at q1,g,hvi,hlong',fitD,hc,hn,hf]
 ·have hf:fitsD vs (ins.map val)=true:=hiff.2 fun j hj=>hb j (by simp at hj; omega)
  simp[h6,h7,g,fitD,hc,hn,hf]
theorem rstart_any {G:LHeap} {vs:List Vr} {os rs:List Ko} {ins:List (List UInt64)} {K:LV→LHeap→Prop} (hl1:vs.length≤1000000) (hi:∀ x∈ins,x.length≤1000) (hf:fitD vs os rs (ins.map val)=0)
  (k:∀ G2 p st,Keep G G2→G.length≤p→G2[p]?=some (.dyn (vaC (startW vs (ins.map val))) vs.length 1 0 st)→K (.dy p 0) G2):CallL Tryz.prog (.fn 56) [.agg (kerC vs os rs),LN ins] G K:=by
 obtain⟨hc,hn0,hfit⟩:=fitD_parts hf
 have hn:(Sv.inV vs).length=ins.length:=by simpa using hn0
 have hkd:dats (kerC vs os rs)=true:=by simp[kerC,dats,LV.dat,vsC_dats,osC_dats]
 refine call_body r_ref20_start k_ref20_start (by simp) ?_
 have hv:varsB vs=true:=by unfold chkB at hc; simp only[Bool.and_eq_true] at hc; exact hc.1
 have hvl:vs.length≤256:=(varsB_len hv).2
 have hil:=inV_len vs
 have hk3:(kerC vs os rs).length=3:=rfl
 have hkt:(kerC vs os rs).take 3=kerC vs os rs:=rfl
 have hk0:(kerC vs os rs)[0]?=some (.lst (vsC vs) vs.length 3):=rfl
 simp[c_ref20_start,hk3,hkt,nthL_at hk0]
 repeat (refine⟨by omega,?_⟩)
 refine CallL_V (ref19_In_ok vs os rs hl1) (by simp[dats,LV.dat,hkd]) ?_
 have hz:inZ vs os rs=Sv.inV vs:=by simp[inZ,hc]
 rw[hz]
 simp
 refine W_cells (p:=G.length+1) (len:=vs.length) (esz:=1) (ver:=0) (st:=0) (l:=repL [.nilSl] vs.length) (l':=vaC (List.replicate vs.length 0)) (by simp) (fun c r h=>start_cells c r h) ?_
 refine loop_nx (fun ρ D G' N=>∃ (i:Nat) (v:List Nat) (st':Nat),D=[]∧N+i=ins.length∧lk ρ 1=.lst (ins.map LU) ins.length 1∧lk ρ 5=.dy (G.length+1) 0∧lk ρ 6=.lst (natC (Sv.inV vs)) (Sv.inV vs).length 1∧lk ρ 7=.i i ∧
   G.length+1 < G'.length∧(∀ q,q < G.length→G'[q]?=G[q]?)∧G'[G.length+1]?=some (.dyn (vaC v) vs.length 1 0 st')∧v.length=vs.length ∧
   (((Sv.inV vs).zip (ins.map val)).drop i).foldl (fun v p=>v.set p.1 p.2) v=startW vs (ins.map val)) (N:=ins.length)
  ⟨0,List.replicate vs.length 0,1,rfl,by omega,by simp[LN],by simp,by simp,by simp,by simp,fun q hq=>by rw[List.getElem?_set_ne (by omega),old1 hq],by simp,by simp,rfl⟩ ?_
 rintro N ρ D G' ⟨i,v,st',rfl,hN,h1,h5,h6,h7,hl,hfr,hp,hvl2,hfold⟩ Nx hNx
 have hpl:G.length+1 < G'.length:=hl
 by_cases g:i < ins.length
 ·have hxl:=in_len hi i
  have hxv:(ins.map val).getD i 0=val (ins.getD i []):=vals_at
  have q1:=natC_at (l:=Sv.inV vs) (j:=i) (by omega)
  have hvi:=inV_at (vs:=vs) (j:=i) (by omega)
  have hcut:=fill_cut (a:=Sv.inV vs) (b:=ins.map val) (j:=i) (by omega) (by simpa using g) v
  rw[hcut,hxv] at hfold
  obtain⟨u,hu⟩:∃ u,(Sv.inV vs).getD i 0=u:=⟨_,rfl⟩
  obtain⟨x,hx2⟩:∃ x,ins.getD i []=x:=⟨_,rfl⟩
  rw[hu] at q1 hvi hfold
  rw[hx2] at hxl hxv hfold
  have hx3:ins[i]=x:=by rw[←hx2]; simp[g]
  have hi2:i < (Sv.inV vs).length:=by omega
  simp[h1,h5,h6,h7,g,hi2,nthL_at q1]
  refine CallL_F (ref02_Trim_ok x (by omega)) (by simp[hx3]) ?_
  have set2:layLV (vaC v) u [.lst ((toL (val x)).map .u) (toL (val x)).length 1]=vaC (v.set u (val x)):=by
   have:layLV (vaC v) u [LU (toL (val x))]=vaC (v.set u (val x)):=by rw[lay1 _ _ _ (by rw[vaC_len]; omega),vaC_set]
   exact this
  simp[RU,h7,hp,hvi,vaC_len,hvl2,set2,h6,hi2,nthL_at q1]
  repeat (refine⟨by omega,?_⟩)
  refine hNx _ _ _ ⟨N - 1,by omega,i+1,v.set u (val x),st'+1,rfl,by omega,by simp[h1],by simp[h5],by simp[h6],by simp,by simp; omega,fun q hq=>?_,?_,by simp[hvl2],hfold⟩
  ·rw[List.getElem?_set_ne (by omega)]; exact hfr q hq
  ·rw[List.getElem?_set_self hpl]
 ·have hi2:¬ i < (Sv.inV vs).length:=by omega
  simp[h1,h5,h6,h7,hi2]
  rw[List.drop_of_length_le (by simp; omega)] at hfold
  have hfold:v=startW vs (ins.map val):=hfold
  rw[hfold] at hp
  exact k _ _ _ ⟨by omega,hfr⟩ (by omega) hp
theorem LN_va (v:List Nat):LN (v.map toL)=.lst (vaC v) v.length 1:=by simp[LN,vaC]
theorem va_vals (v:List Nat):(v.map toL).map val=v:=by
 rw[List.map_map]
 have:(val ∘ toL)=id:=funext fun x=>val_toL x
 rw[this,List.map_id]
theorem okV_rows {vs:List Vr} {v:List Nat} (hv:varsB vs=true) (h:okV vs v):∀ x∈v.map toL,x.length≤1000:=fun x hx=>by
 obtain⟨y,hy,rfl⟩:=List.mem_map.1 hx
 obtain⟨i,hi,rfl⟩:=List.mem_iff_getElem.1 hy
 have:=okV_len hv h i
 rw[List.getD_eq_getElem?_getD,List.getElem?_eq_getElem hi] at this
 exact Nat.le_trans this (by omega)
theorem rholds_any {G:LHeap} {p st:Nat} {vs:List Vr} {v:List Nat} {f:Fc} {K:LV→LHeap→Prop} (hv:varsB vs=true) (hk:okV vs v) (hp:G[p]?=some (.dyn (vaC v) vs.length 1 0 st)) (k:K (.bool (holdsB f v)) G):CallL Tryz.prog (.fn 28) [.agg (fcF f),.dy p 0] G K:=by
 have h:=rHolds_ok f (v.map toL) (okV_rows hv hk)
 rw[va_vals,LN_va,hk.1] at h
 refine CallL_F h ⟨_,_,rfl,⟨_,rfl,bors_self _ rfl⟩,_,_,rfl,⟨_,_,_,st,rfl,hp,vaC_dats v⟩,rfl⟩ ?_
 simpa using k
theorem req_one {vs:List Vr} {o:Ko} (h:reqB vs o=true):∃ f,needsL o=[f]:=by
 unfold reqB needB at h
 simp only[Bool.and_eq_true,decide_eq_true_eq] at h
 obtain⟨hk,⟨_,_,_,_,hi⟩,_⟩:=h
 unfold needsL
 by_cases i2:o.imm=2
 ·exact⟨(2,o.a,o.b),by simp[hk,i2]⟩
 ·rw[if_neg i2] at hi
  simp only[Bool.and_eq_true,Bool.or_eq_true,decide_eq_true_eq] at hi
  rcases hi.1 with i1 | i3
  ·exact⟨(1,o.a,-1),by simp[hk,i1]⟩
  ·exact⟨(3,o.a,-1),by simp[hk,i3]⟩
theorem rMet_ok (vs:List Vr) (os rs:List Ko) (ins:List (List UInt64)) (hl1:vs.length≤1000000) (hi:∀ x∈ins,x.length≤1000) :
  FnS Tryz.prog 32 [.agg (kerC vs os rs),LN ins] (.bool (metD vs os rs (ins.map val))) []:=by
 have hkd:dats (kerC vs os rs)=true:=by simp[kerC,dats,LV.dat,vsC_dats,osC_dats]
 have hdd:dats [.agg (kerC vs os rs),LN ins]=true:=by simp[dats,LV.dat,hkd,LN,LN_dats]
 refine FnS.val rfl (call_body r_ref20_Met k_ref20_Met (by simp) ?_)
 have hk3:(kerC vs os rs).length=3:=rfl
 have hkt:(kerC vs os rs).take 3=kerC vs os rs:=rfl
 have hk2:(kerC vs os rs)[2]?=some (.lst (osC rs) rs.length 7):=rfl
 simp[c_ref20_Met,hk3,hkt]
 refine CallL_F (rFits_ok vs os rs ins hl1 hi) (bors_self _ hdd) ?_
 by_cases hf:fitD vs os rs (ins.map val)=0
 case neg=>simp[hf,metD]
 obtain⟨hc,_,hfit⟩:=fitD_parts hf
 have hc':=hc
 unfold chkB at hc'
 simp only[Bool.and_eq_true,decide_eq_true_eq] at hc'
 obtain⟨hv,_,hrl,hrq,_⟩:=hc'
 rw[List.all_eq_true] at hrq
 have hok:=okV_start hfit
 simp[hf,hk3,hkt]
 refine rstart_any hl1 hi hf fun G2 p st hke hp hGp=>?_
 have h0:G2[0]?=some (.cells (kerC vs os rs) 0):=hke.at (by simp)
 have hmD:metD vs os rs (ins.map val)=rs.all fun o=>metB o (startW vs (ins.map val)):=by simp[metD,hf]
 rw[hmD]
 generalize startW vs (ins.map val)=v at *
 simp
 refine loop_nx (fun ρ D G N=>∃ i:Nat,D=[]∧N+i=rs.length∧lk ρ 2=.ptr 0 0∧lk ρ 5=.dy p 0∧lk ρ 6=.i i∧0 < G.length∧G[0]?=some (.cells (kerC vs os rs) 0)∧G[p]?=some (.dyn (vaC v) vs.length 1 0 st)∧(rs.take i).all (fun o=>metB o v)=true) (N:=rs.length)
  ⟨0,rfl,by omega,by simp,by simp,by simp,(List.getElem?_eq_some_iff.1 h0).1,h0,hGp,by simp⟩ ?_
 rintro N ρ D G ⟨i,rfl,hN,h2,h5,h6,hl,hG,hGp,hall⟩ Nx hNx
 by_cases g:i < rs.length
 ·have q7:=os_seven (at_go g)
  have hqq:=os_lt g
  have he:rs[i]=go rs i:=by have:=at_go g; rw[List.getElem?_eq_getElem g] at this; exact Option.some.inj this
  have hrqi:=hrq (go rs i) (List.mem_of_getElem? (at_go g))
  obtain⟨f,hfl⟩:=req_one hrqi
  have hmb:metB (go rs i) v=holdsB f v:=by simp[metB,hfl]
  have hnx:(rs.take (i+1)).all (fun o=>metB o v)=metB (go rs i) v:=by
   rw[List.take_succ_eq_append_getElem g,List.all_append,hall,he]; simp
  have hN1:=rNeeds_ok (go rs i)
  have hf7:(go rs i).f=[.i (go rs i).kind,.i (go rs i).d,.i (go rs i).e,.i (go rs i).a,.i (go rs i).b,.i (go rs i).c,.u (go rs i).imm]:=rfl
  have hmem:=List.mem_of_getElem? (at_go g)
  generalize go rs i=o at *
  rw[hfl] at hN1
  simp[h2,h5,h6,g,hG,hk3,nthL_at hk2,q7,hqq,hf7]
  rw[←hf7]
  refine CallL_V hN1 (by simp[dats,LV.dat,hf7]) ?_
  simp[fcC,fcF,h5]
  rw[show [LV.i f.1,LV.i f.2.1,LV.i f.2.2]=fcF f from rfl]
  refine rholds_any hv hok hGp ?_
  rw[←hmb]
  cases hm:metB o v with
  | false =>
   have:rs.all (fun o=>metB o v)=false:=by
    rw[Bool.eq_false_iff]
    intro h
    rw[List.all_eq_true] at h
    have:=h o hmem
    rw[hm] at this; cases this
   simp[this]
  | true =>
   rw[hm] at hnx
   simp[h6]
   exact⟨by omega,hNx _ _ _ ⟨N - 1,by omega,i+1,rfl,by omega,by simp[h2],by simp[h5],by simp,hl,hG,hGp,hnx⟩⟩
 ·rw[List.take_of_length_le (by omega)] at hall
  simp[h2,h5,h6,g,hG,hk3,nthL_at hk2,hall]
end Go.Proofs.YtnbnhnjffiagmaaGreat
