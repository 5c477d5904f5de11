/- Kernels' meaning: how many steps there are. -/
import Derived.Test.YtnbnhnjffiagmaaGreatFnNf
import Derived.Test.YtnbnhnjffiagmaaGreatSvG3
namespace Go.Proofs.YtnbnhnjffiagmaaGreat
open Go.Sv
set_option linter.unusedSimpArgs false
set_option maxRecDepth 10000
def c_denote_Steps:LC:=(.seq (.ops [.z 1 (.box (.t 0)),.z 2 (.move (.c (.i 0)))]) (.seq (.seq (.ops [.z 8 (.loadN 3 (.t 1)),.z 9 (.callV (.c (.fn (.func 45) [] [])) [.t 8]),.z 10 (.bin .neq true 32 (.t 9) (.c (.i 0)))]) (.cond (.t 10) (.seq (.ops [.z 2 (.move (.c (.i 0)))]) .ret) .skip)) (.seq (.ops [.z 11 (.buildSl 1 1 [(.i 0)] [(0,1,.c (.i 0))]),.m 3 11]) (.seq (.ops [.z 12 (.loadN 3 (.t 1)),.z 13 (.callV (.c (.fn (.func 46) [] [])) [.t 12]),.m 4 13]) (.seq (.seq (.ops [.f 14 1 1,.l 15 14,.z 16 (.lenSl (.t 15)),.z 17 (.move (.c (.i 0)))]) (.block 0 (.loop (.seq (.ops [.z 18 (.bin .lss false 3 (.t 17) (.t 16))]) (.seq (.cond (.t 18) .skip (.exit 0)) (.seq (.block 1 (.seq (.ops [.m 19 17,.z 20 (.ixAddr 7 (.t 15) (.t 17)),.z 21 (.loadN 7 (.t 20)),.z 6 (.alloc [(.i 0),(.i 0),(.i 0),(.i 0),(.i 0),(.i 0),(.u 0)]),.m 5 19,⟨none,none,.store 7 (.t 6) (.t 21)⟩]) (.seq (.ops [.m 22 3,.z 23 (.lenSl (.t 22)),.z 24 (.bin .sub true 3 (.t 23) (.c (.i 1))),.m 7 24]) (.seq (.ops [.f 25 0 6,.l 26 25]) (.block 2 (.seq (.ops [.z 37 (.bin .eql true 3 (.t 26) (.c (.i 15))),.m 36 37]) (.cond (.t 36) (.ops [.m 38 3,.z 39 (.buildSl 1 1 [(.i 0)] [(0,1,.c (.i 1))]),.z 40 (.appG 1 (.t 38) (.t 39)),.m 3 40]) (.seq (.ops [.z 42 (.bin .eql true 3 (.t 26) (.c (.i 16))),.m 41 42]) (.cond (.t 41) (.seq (.draw [(.m 43 3,[]),(.m 44 7,[]),(.z 45 (.bin .sub true 3 (.t 44) (.c (.i 1))),[]),(.m 46 3,[]),(.m 47 7,[]),(.z 48 (.bin .sub true 3 (.t 47) (.c (.i 1))),[]),(.z 49 (.ixAddr 1 (.t 46) (.t 48)),[]),(.l 50 49,[]),(.m 51 3,[]),(.m 52 7,[]),(.z 53 (.ixAddr 1 (.t 51) (.t 52)),[]),(.l 54 53,[]),(.f 55 1 1,[]),(.l 56 55,[]),(.m 57 4,[]),(.m 58 5,[]),(.z 59 (.ixAddr 1 (.t 57) (.t 58)),[]),(.l 60 59,[]),(.z 61 (.ixAddr 7 (.t 56) (.t 60)),[]),(.f 62 6 61,[]),(.l 63 62,[]),(.z 64 (.cvInt .i64 (.t 63)),[]),(.z 65 (.bin .mul false 3 (.t 54) (.t 64)),[]),(.z 66 (.bin .add false 3 (.t 50) (.t 65)),[]),(.z 67 (.maxi false (.c (.i 1099511627776)) (.t 66)),[]),(.z 68 (.ixAddr 1 (.t 43) (.t 45)),[]),(⟨none,none,.store 1 (.t 68) (.t 67)⟩,[])]) (.ops [.m 69 3,.m 70 7,.z 71 (.slSl 1 (.t 69) none (some (.t 70))),.m 3 71])) (.ops [.m 27 3,.m 28 7,.m 29 3,.m 30 7,.z 31 (.ixAddr 1 (.t 29) (.t 30)),.l 32 31,.z 33 (.bin .add true 3 (.t 32) (.c (.i 1))),.z 34 (.maxi false (.c (.i 1099511627776)) (.t 33)),.z 35 (.ixAddr 1 (.t 27) (.t 28)),⟨none,none,.store 1 (.t 35) (.t 34)⟩])))))))))) (.ops [.z 72 (.bin .add true 3 (.t 17) (.c (.i 1))),.m 17 72]))))))) (.seq (.ops [.m 73 3,.z 74 (.ixAddr 1 (.t 73) (.c (.i 0))),.l 75 74,.m 2 75]) .ret))))))
theorem r_denote_Steps:resFn Tryz.prog 17=some ⟨76,c_denote_Steps.r,[.tmp 2]⟩:=by kernel_rfl
theorem k_denote_Steps:c_denote_Steps.ok=true:=by kernel_rfl
def naC (l:List Nat):List LV:=l.map fun n:Nat=>.i n
theorem naC_rev (a:Nat) (l:List Nat):naC (a::l).reverse=naC l.reverse++[.i a]:=by simp[naC]
theorem naC_top (a:Nat) (l:List Nat):(naC (a::l).reverse)[l.length]?=some (.i a):=by
 rw[naC_rev,List.getElem?_append_right (by simp[naC]),show l.length - (naC l.reverse).length=0 by simp[naC]]; rfl
theorem naC_two (a b:Nat) (l:List Nat):(naC (a::b::l).reverse)[l.length]?=some (.i b):=by
 rw[naC_rev,List.getElem?_append_left (by simp[naC]),naC_top]
theorem naC_put (a x:Nat) (l:List Nat):(naC (a::l).reverse).set l.length (.i x)=naC (x::l).reverse:=by
 rw[naC_rev,naC_rev,List.set_append,if_neg (by simp[naC]),show l.length - (naC l.reverse).length=0 by simp[naC]]; rfl
theorem naC_put2 (a b x:Nat) (l:List Nat):(naC (a::b::l).reverse).set l.length (.i x)=naC (a::x::l).reverse:=by
 rw[naC_rev,naC_rev a (x::l),List.set_append,if_pos (by simp[naC]),naC_put]
theorem naC_cut (a:Nat) (l:List Nat):(naC (a::l).reverse).take (l.length * 1)=naC l.reverse:=by
 rw[naC_rev,Nat.mul_one,List.take_left' (by simp[naC])]
theorem Steps_ok (vs:List Vr) (os rs:List Ko) (hl1:vs.length≤9223372036854775807):FnS Tryz.prog 17 [.agg (kerC vs os rs)] (.i (stepsN20 vs os rs:Nat)) []:=by
 have hkd:dats (kerC vs os rs)=true:=by simp[kerC,dats,LV.dat,vsC_dats,osC_dats]
 have di:∀ l:List Int,dats (l.map .i)=true:=fun l=>dats_map (fun _=>rfl) l
 refine FnS.val rfl (call_body r_denote_Steps k_denote_Steps (by simp) ?_)
 have hk3:(kerC vs os rs).length=3:=rfl
 have hkt:(kerC vs os rs).take 3=kerC vs os rs:=rfl
 have hk1:(kerC vs os rs)[1]?=some (.lst (osC os) os.length 7):=rfl
 simp[c_denote_Steps,hk3,hkt]
 refine CallL_F (lengths_Check_ok vs os rs hl1) (bors_self _ (by simp[dats,LV.dat,hkd])) ?_
 cases hc:chkB vs os rs with
 | false=>simp[chkE,hc,stepsN20]
 | true =>
 have hos:os.length≤4096:=by
  have h:=hc
  unfold chkB at h
  simp only[Bool.and_eq_true,decide_eq_true_eq] at h
  exact h.2.1
 simp[chkE,hc,hk3,hkt,nthL_at hk1]
 refine CallL_V (lengths_Ends_ok vs os rs hl1) (by simp[dats,LV.dat,hkd]) ?_
 have hez:endsZ vs os rs=endsL kdK os:=by simp[endsZ,hc]
 rw[hez]
 obtain⟨f,w,hf,u,ha,_⟩:=chk_tree hc
 have hs:f.stepsD 0=stepsN20 vs os rs:=by rw[hf]; exact steps_stM w u (by rw[←hf]; exact hc)
 have hst0:stM os (endsL kdK os) 0 os [0]=[stepsN20 vs os rs]:=by
  rw[←hs]
  have h:=stM_all (os:=os) w hf
  rw[←endsL_tree w,←hf] at h
  exact h
 have hel:(endsL kdK os).length=os.length:=by rw[hf,endsL_tree w,Fr.ends_len,Fr.flat_len]
 have hone:=chk_all hc
 have hend:∀ i o,os[i]?=some o→o.kind=16→0≤gd (endsL kdK os) i∧gd (endsL kdK os) i < os.length:=fun i o h1 h2=>end_at hc h1 h2
 have hkop:∀ i o,os[i]?=some o→o.kind=16→(go os (gd (endsL kdK os) i).toNat).imm.toNat≤4096:=fun i o h1 h2=>end_imm hc h1 h2
 generalize stepsN20 vs os rs=res at *
 generalize endsL kdK os=es at *
 simp[hk3,hkt,nthL_at hk1]
 refine loop_nx (fun ρ D G N=>∃ (i:Nat) (st:List Nat) (sv:LV),D=[]∧N+i=os.length∧lk ρ 1=.ptr 0 0∧lk ρ 3=sv∧lk ρ 4=.lst (es.map .i) es.length 1∧lk ρ 15=.lst (osC os) os.length 7∧lk ρ 16=.i os.length∧lk ρ 17=.i i∧0 < G.length∧G[0]?=some (.cells (kerC vs os rs) 0)∧Stk 1 G sv 1 st.length (naC st.reverse)∧st.length≤i+1∧(∀ a∈st,a≤cap40)∧stM os es i (os.drop i) st=[res]) (N:=os.length)
  ⟨0,[0],.dy 1 0,rfl,by omega,by simp,by simp,by simp,by simp,by simp,by simp,by simp,by simp,Stk.dy (st:=0) (by omega) (by simp[naC]) (by simp[naC]),by simp,by simp,by simpa using hst0⟩ ?_
 rintro N ρ D G ⟨i,st,sv,rfl,hN,h1,h3,h4,h15,h16,h17,hl,hG,hst,hsl,hsa,hM⟩ Nx hNx
 by_cases g:i < os.length
 case neg =>
  rw[List.drop_of_length_le (by omega)] at hM
  have hM:st=[res]:=by simpa [Sv.stM] using hM
  subst hM
  simp[h3,h15,h16,h17,g]
  refine hst.ix (by omega) (by simp) fun p ver R m st' hb hg hR hRl=>?_
  have q:R[0]?=some (.i (res:Nat)):=by rw[hR _ (by simp)]; rfl
  simp[hg,nthL_at q]
 have hoi:=at_go g
 have q7:=os_seven hoi
 have hqq:=os_lt g
 have hend:=hend i (go os i) hoi
 have hkop:=hkop i (go os i) hoi
 rw[drop_go g] at hM
 have hf7:(go os i).f=[.i (go os i).kind,.i (go os i).d,.i (go os i).e,.i (go os i).a,.i (go os i).b,.i (go os i).c,.u (go os i).imm]:=rfl
 generalize go os i=o at hoi q7 hM hf7 hend hkop
 unfold Sv.stM at hM
 have hG1:∀ x y,(G++x++y)[0]?=some (.cells (kerC vs os rs) 0):=fun x y=>by rw[List.append_assoc,old1 hl]; exact hG
 by_cases k15:o.kind=15
 ·rw[if_pos k15] at hM
  simp[h1,h3,h4,h15,h16,h17,g,q7,hqq,hf7,k15]
  refine hst.push_end.lenL ?_
  refine⟨by omega,?_⟩
  refine Stk.push (x:=[.i 1]) hst.push_end (by omega) (by simp) (by omega) rfl fun v' G2 hs2 hfr2 hb2=>?_
  simp[h17]
  refine⟨by omega,hNx _ _ _ ⟨N - 1,by omega,i+1,1::st,v',rfl,by omega,by simp[h1],by simp,by simp[h4],by simp[h15],by simp[h16],by simp,by omega,?_,?_,by simp; omega,?_,hM⟩⟩
  ·rw[hfr2 0 (by omega),old1 hl]; exact hG
  ·rw[naC_rev,List.length_cons]; exact hs2
  ·intro a ha
   rcases List.mem_cons.1 ha with rfl | ha
   ·decide
   ·exact hsa a ha
 rw[if_neg k15] at hM
 by_cases k16:o.kind=16
 ·rw[if_pos k16] at hM
  match st,hM,hst,hsl,hsa with
  | [],hM,_,_,_=>cases hM
  | [_],hM,_,_,_=>cases hM
  | a::b::s,hM,hst,hsl,hsa =>
  obtain⟨ge0,ge1⟩:=hend k16
  have hkop:=hkop k16
  obtain⟨e,he⟩:=Int.eq_ofNat_of_zero_le ge0
  rw[he] at hM hkop ge1
  have heo:e < os.length:=by omega
  have qe:(es.map LV.i)[i]?=some (.i (gd es i)):=map_at (at_getD (by omega))
  rw[he] at qe
  have hie:i < es.length:=by omega
  have qi:(osC os)[e * 7+6]?=some (.u (go os e).imm):=by have:=fm_at Ko.f_len (at_go heo) (j:=6) (by omega); simpa [osC,Ko.f] using this
  have hal:=hsa a (by simp)
  have hbl:=hsa b (by simp)
  simp only[Int.toNat_natCast] at hM hkop
  generalize (go os e).imm=im at *
  have hmul:a * im.toNat≤cap40 * 4096:=Nat.mul_le_mul hal hkop
  have hmi:(a:Int) * (im.toNat:Int)=((a * im.toNat:Nat):Int):=by simp
  have e40:min 1099511627776 ((b:Int)+((a * im.toNat:Nat):Int))=((min cap40 (b+a * im.toNat):Nat):Int):=min40' (b+a * im.toNat)
  have hmul2:a * im.toNat≤1099511627776 * 4096:=hmul
  have hbl2:b≤1099511627776:=hbl
  generalize a * im.toNat=prod at *
  simp at hsl
  simp[h1,h3,h4,h15,h16,h17,g,q7,hqq,hf7,k15,k16]
  refine hst.push_end.lenL ?_
  have hc1:(((a::b::s).length:Nat):Int) - 1=((s.length+1:Nat):Int):=by simp
  have hc2:((s.length+1:Nat):Int) - 1=(s.length:Nat):=by omega
  simp only[hc1]
  simp[h3]
  have hlen:(a::b::s).length=s.length+2:=rfl
  refine⟨by omega,by omega,hst.push_end.ix (by omega) (by rw[hlen]; omega) fun p1 ver1 R1 m1 st1 hb1 hg1 hR1 hRl1=>?_⟩
  have q1:R1[s.length]?=some (.i b):=by rw[hR1 _ (by rw[hlen]; omega)]; exact naC_two _ _ _
  simp[hg1,nthL_at q1,h3]
  refine hst.push_end.ix (by omega) (by rw[hlen]; omega) fun p2 ver2 R2 m2 st2 hb2 hg2 hR2 hRl2=>?_
  have q2:R2[s.length+1]?=some (.i a):=by rw[hR2 _ (by rw[hlen]; omega)]; exact naC_top a (b::s)
  have q2':R2[(↑s.length+1:Int).toNat]?=some (.i a):=by rw[show (↑s.length+1:Int).toNat=s.length+1 by omega]; exact q2
  simp[hg2,nthL_at q2,nthL_at q2',h1,h4,↓old1 hl,hG,nthL_at hk1,hie,heo,nthL_at qe,nthL_at qi,hmi,e40]
  repeat (refine⟨by omega,?_⟩)
  refine hst.push_end.ixw (by omega) (by rw[hlen]; omega) fun p3 ver3 R3 m3 st3 hb3 hg3 hR3 hRl3 hput=>?_
  have hRl4:s.length < R3.length:=by rw[hlen] at hRl3; omega
  have set1:layLV R3 s.length [.i (min cap40 (b+prod):Nat)]=R3.set s.length (.i (min cap40 (b+prod):Nat)):=lay1 _ _ _ hRl4
  have hput:=hput s.length (.i (min cap40 (b+prod):Nat)) (st3+1)
  rw[naC_put2] at hput
  simp[hg3,set1,h3]
  refine⟨by omega,hput.cut (m:=s.length+1) (by rw[hlen]; omega) (fun K' k'=>k') (fun d K' k'=>⟨by omega,k'⟩) fun v' hs'=>?_⟩
  have hcut:=naC_cut a (min cap40 (b+prod)::s)
  rw[List.length_cons] at hcut
  rw[hcut] at hs'
  simp[h17]
  refine⟨by omega,hNx _ _ _ ⟨N - 1,by omega,i+1,min cap40 (b+prod)::s,v',rfl,by omega,by simp[h1],by simp,by simp[h4],by simp[h15],by simp[h16],by simp,by simp,?_,by simpa using hs',by simp; omega,?_,hM⟩⟩
  ·rw[List.getElem?_set_ne (by omega),old1 hl]; exact hG
  ·intro x hx
   rcases List.mem_cons.1 hx with rfl | hx
   ·exact Nat.min_le_left _ _
   ·exact hsa x (by simp[hx])
 rw[if_neg k16] at hM
 cases st with
 | nil=>cases hM
 | cons a s =>
 have hal:=hsa a (by simp)
 have hal2:a≤1099511627776:=hal
 have e40:min 1099511627776 ((a:Int)+1)=((min cap40 (a+1):Nat):Int):=min40' (a+1)
 simp at hsl
 simp[h1,h3,h4,h15,h16,h17,g,q7,hqq,hf7,k15,k16]
 refine hst.push_end.lenL ?_
 have hc1:(((a::s).length:Nat):Int) - 1=(s.length:Nat):=by simp
 simp only[hc1]
 simp[h3]
 have hlen:(a::s).length=s.length+1:=rfl
 refine⟨by omega,hst.push_end.ix (by omega) (by rw[hlen]; omega) fun p1 ver1 R1 m1 st1 hb1 hg1 hR1 hRl1=>?_⟩
 have q1:R1[s.length]?=some (.i a):=by rw[hR1 _ (by rw[hlen]; omega)]; exact naC_top _ _
 simp[hg1,nthL_at q1,h3,e40]
 refine⟨by omega,hst.push_end.ixw (by omega) (by rw[hlen]; omega) fun p2 ver2 R2 m2 st2 hb2 hg2 hR2 hRl2 hput=>?_⟩
 have hRl3:s.length < R2.length:=by rw[hlen] at hRl2; omega
 have set1:layLV R2 s.length [.i (min cap40 (a+1):Nat)]=R2.set s.length (.i (min cap40 (a+1):Nat)):=lay1 _ _ _ hRl3
 have hput:=hput s.length (.i (min cap40 (a+1):Nat)) (st2+1)
 rw[naC_put] at hput
 simp[hg2,set1,h17]
 refine⟨by omega,by omega,hNx _ _ _ ⟨N - 1,by omega,i+1,min cap40 (a+1)::s,sv,rfl,by omega,by simp[h1],by simp[h3],by simp[h4],by simp[h15],by simp[h16],by simp,by simp,?_,hput,by simp; omega,?_,hM⟩⟩
 ·rw[List.getElem?_set_ne (by omega),old1 hl]; exact hG
 ·intro x hx
  rcases List.mem_cons.1 hx with rfl | hx
  ·exact Nat.min_le_left _ _
  ·exact hsa x (by simp[hx])
end Go.Proofs.YtnbnhnjffiagmaaGreat
