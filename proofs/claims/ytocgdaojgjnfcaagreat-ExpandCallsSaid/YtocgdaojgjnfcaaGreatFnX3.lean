/- ExpandCalls, walked. -/
import Derived.Test.YtocgdaojgjnfcaaGreatFnX2
import Derived.Test.YtocgdaojgjnfcaaGreatFnL22
namespace Go.Proofs.YtocgdaojgjnfcaaGreat
open Go.Sv
set_option linter.unusedSimpArgs false
set_option maxRecDepth 10000
def c_law22_light:LC:=(.seq (.ops [.z 4 (.move (.c (.bool false)))]) (.seq (.seq (.ops [.z 5 (.move (.c (.i 0)))]) (.block 0 (.loop (.seq (.seq (.ops [.m 6 5,.m 7 0,.z 8 (.lenSl (.t 7)),.z 9 (.bin .lss false 3 (.t 6) (.t 8))]) (.cond (.t 9) .skip (.exit 0))) (.seq (.block 1 (.seq (.ops [.m 12 0,.m 13 5,.z 14 (.ixAddr 3 (.t 12) (.t 13)),.f 15 0 14,.l 16 15,.m 17 1,.z 18 (.bin .gtr false 3 (.t 16) (.t 17))]) (.cond (.t 18) (.seq (.ops [.z 4 (.move (.c (.bool false)))]) .ret) .skip))) (.ops [.m 10 5,.z 11 (.bin .add true 3 (.t 10) (.c (.i 1))),.m 5 11])))))) (.seq (.ops [.m 19 0,.z 20 (.lenSl (.t 19)),.z 21 (.bin .leq true 3 (.t 20) (.c (.i 12))),.m 4 21]) .ret)))
theorem r_law22_light:resFn Tryz.prog 24=some ⟨22,c_law22_light.r,[.tmp 4]⟩:=by kernel_rfl
theorem k_law22_light:c_law22_light.ok=true:=by kernel_rfl
def c_law22_ExpandCalls:LC:=(.seq (.ops [.z 4 (.box (.t 1)),.z 5 (.box (.t 2)),.z 6 (.move (.c (.bool false)))]) (.seq (.seq (.ops [.z 7 (.callV (.c (.fn (.func 23) [] [])) []),.z 8 (.un .not (.t 7))]) (.cond (.t 8) (.seq (.ops [.z 6 (.move (.c (.bool false)))]) .ret) .skip)) (.seq (.seq (.ops [.m 9 0,.z 10 (.callV (.c (.fn (.func 24) [] [])) [.t 9,.c (.i 1048576)]),.z 11 (.un .not (.t 10)),.m 12 11,⟨some 13,(some (12,false)),.fieldAddr 0 (.t 4)⟩,⟨some 14,(some (12,false)),.load1 (.t 13)⟩,⟨some 15,(some (12,false)),.lenSl (.t 14)⟩,⟨some 16,(some (12,false)),.bin .gtr true 3 (.t 15) (.c (.i 40))⟩,.z 17 (.pick (.t 12) (.c (.bool true)) (.t 16)),.m 18 17,⟨some 19,(some (18,false)),.fieldAddr 1 (.t 4)⟩,⟨some 20,(some (18,false)),.load1 (.t 19)⟩,⟨some 21,(some (18,false)),.lenSl (.t 20)⟩,⟨some 22,(some (18,false)),.bin .gtr true 3 (.t 21) (.c (.i 40))⟩,.z 23 (.pick (.t 18) (.c (.bool true)) (.t 22))]) (.cond (.t 23) (.seq (.ops [.z 6 (.move (.c (.bool true)))]) .ret) .skip)) (.seq (.draw [(.m 24 0,[]),(.z 25 (.loadN 8 (.t 4)),[]),(.m 27 0,[]),(.z 28 (.loadN 8 (.t 4)),[]),(.z 26 (.callV (.c (.fn (.func 25) [] [])) [.t 24,.t 25]),[(.z 28 (.loadN 8 (.t 4)),false)]),(.z 29 (.callV (.c (.fn (.func 26) [] [])) [.t 27,.t 28]),[]),(.z 30 (.bin .eql false 27 (.t 26) (.t 29)),[]),(.m 31 30,[]),(⟨some 32,(some (31,true)),.fieldAddr 0 (.t 5)⟩,[]),(⟨some 33,(some (31,true)),.load1 (.t 32)⟩,[]),(⟨some 35,(some (31,true)),.fieldAddr 0 (.t 5)⟩,[]),(⟨some 36,(some (31,true)),.load1 (.t 35)⟩,[]),(⟨some 34,(some (31,true)),.callV (.c (.fn (.func 27) [] [])) [.t 33]⟩,[(⟨some 36,(some (31,true)),.load1 (.t 35)⟩,false)]),(⟨some 37,(some (31,true)),.callV (.c (.fn (.func 28) [] [])) [.t 36]⟩,[]),(⟨some 38,(some (31,true)),.bin .eql false 4 (.t 34) (.t 37)⟩,[]),(.z 39 (.pick (.t 31) (.t 38) (.c (.bool false))),[]),(.m 40 39,[]),(⟨some 41,(some (40,true)),.move (.t 0)⟩,[]),(⟨some 42,(some (40,true)),.loadN 7 (.t 5)⟩,[]),(⟨some 44,(some (40,true)),.move (.t 0)⟩,[]),(⟨some 45,(some (40,true)),.loadN 7 (.t 5)⟩,[]),(⟨some 43,(some (40,true)),.callV (.c (.fn (.func 29) [] [])) [.t 41,.t 42]⟩,[(⟨some 45,(some (40,true)),.loadN 7 (.t 5)⟩,false)]),(⟨some 46,(some (40,true)),.callV (.c (.fn (.func 30) [] [])) [.t 44,.t 45]⟩,[]),(⟨some 47,(some (40,true)),.bin .eql false 4 (.t 43) (.t 46)⟩,[]),(.z 48 (.pick (.t 40) (.t 47) (.c (.bool false))),[]),(.m 6 48,[])]) .ret))))
theorem r_law22_ExpandCalls:resFn Tryz.prog 4=some ⟨49,c_law22_ExpandCalls.r,[.tmp 6]⟩:=by kernel_rfl
theorem k_law22_ExpandCalls:c_law22_ExpandCalls.ok=true:=by kernel_rfl
noncomputable def pubB (vs:List Vr) (d:Int):Bool:=decide (0≤d) && (decide (d < vs.length) && !(gv vs d.toNat).sec)
theorem expand_Public_ok (vs:List Vr) (o:Ko):FnS Tryz.prog 29 [.lst (vsC vs) vs.length 3,.agg o.f] (.bool (pubB vs o.d)) []:=by
 refine FnS.val rfl (call_body r_expand_Public k_expand_Public (by simp) ?_)
 by_cases e1:0≤o.d
 case neg=>simp[c_expand_Public,Ko.f,pubB,e1]
 by_cases e2:o.d < vs.length
 case neg=>simp[c_expand_Public,Ko.f,pubB,e1,e2]
 obtain⟨n,hn⟩:=Int.eq_ofNat_of_zero_le e1
 have hlt:n < vs.length:=by omega
 have q1:=vs_at1 (at_gv hlt)
 have hq:=vs_lt hlt
 simp[c_expand_Public,Ko.f,pubB,hn,hlt,nthL_at q1]
theorem ref22_Public_ok (vs:List Vr) (o:Ko):FnS Tryz.prog 30 [.lst (vsC vs) vs.length 3,.agg o.f] (.bool (pubB vs o.d)) []:=by
 refine FnS.val rfl (call_body r_ref22_Public k_ref22_Public (by simp) ?_)
 by_cases e1:0≤o.d
 case neg=>simp[c_ref22_Public,Ko.f,pubB,e1]
 by_cases e2:o.d < vs.length
 case neg=>simp[c_ref22_Public,Ko.f,pubB,e1,e2]
 obtain⟨n,hn⟩:=Int.eq_ofNat_of_zero_le e1
 have hlt:n < vs.length:=by omega
 have q1:=vs_at1 (at_gv hlt)
 have hq:=vs_lt hlt
 simp[c_ref22_Public,Ko.f,pubB,hn,hlt,nthL_at q1]
theorem ref22_Has_ok (k:Int):FnS Tryz.prog 28 [.i k] (.bool (hasK k)) []:=by
 refine FnS.val rfl (call_body r_ref22_Has k_ref22_Has (by simp) ?_)
 by_cases h1:1≤k
 ·by_cases h2:k≤11 <;> simp[c_ref22_Has,hasK,h1,h2]
 ·simp[c_ref22_Has,hasK,h1]
theorem law22_light_ok (vs:List Vr) (n:Int) (hl:vs.length≤9223372036854775807):FnS Tryz.prog 24 [.lst (vsC vs) vs.length 3,.i n] (.bool ((vs.all fun v=>decide (v.limbs≤n)) && decide (vs.length≤12))) []:=by
 refine FnS.val rfl (call_body r_law22_light k_law22_light (by simp) ?_)
 simp[c_law22_light]
 refine loop_nx (fun ρ D G N=>∃ i:Nat,D=[]∧N+i=vs.length∧lk ρ 0=.lst (vsC vs) vs.length 3∧lk ρ 1=.i n∧lk ρ 5=.i i∧∀ j,j < i→(gv vs j).limbs≤n) (N:=vs.length) ⟨0,by simp⟩ ?_
 rintro N ρ D G ⟨i,rfl,hN,h0,h1,h5,hp⟩ Nx hNx
 by_cases g:i < vs.length
 ·have q0:=vs_at0 (at_gv g)
  have hq:=vs_lt g
  by_cases e:n < (gv vs i).limbs
  ·simp[h0,h1,h5,g,nthL_at q0,e]
   intro h
   have:=h _ (List.mem_of_getElem? (at_gv g))
   omega
  ·simp[h0,h1,h5,g,nthL_at q0,e]
   refine⟨by omega,hNx _ _ _ ⟨N - 1,by omega,i+1,rfl,by omega,by simp[h0],by simp[h1],by simp,fun j hj=>?_⟩⟩
   by_cases q:j=i
   ·rw[q]; omega
   ·exact hp j (by omega)
 ·have ha:(vs.all fun v=>decide (v.limbs≤n))=true:=List.all_eq_true.2 fun v hv=>by
   obtain⟨j,hj,rfl⟩:=List.mem_iff_getElem.1 hv
   have h2:=at_gv hj
   rw[List.getElem?_eq_getElem hj] at h2
   rw[Option.some.inj h2]
   simpa using hp j (by omega)
  simp[h0,h1,h5,g,ha]
  omega
theorem law22_ExpandCalls_run (vs:List Vr) (bs:List Bf) (ps:List Pc) (w0 w1:Pc) (o:Ko) (hl:vs.length≤9223372036854775807) (hb:bs.length≤9223372036854775807) :
  CallL Tryz.prog (.fn 4) [.lst (vsC vs) vs.length 3,.agg (plV bs ps w0 w1),.agg o.f] [] fun v _=>v=.bool true:=by
 refine call_body r_law22_ExpandCalls k_law22_ExpandCalls (by simp) ?_
 simp[c_law22_ExpandCalls]
 refine CallL_F law22_lives_ok (by simp) ?_
 simp
 refine CallL_F (law22_light_ok vs 1048576 hl) (bors_self _ (by simp[dats,LV.dat,vsC_dats])) ?_
 cases hL:((vs.all fun v=>decide (v.limbs≤1048576)) && decide (vs.length≤12)) with
 | false=>simp
 | true =>
 have hv:vs.length≤12:=by simp at hL; exact hL.2
 by_cases g1:(40:Int) < bs.length
 ·simp[plV,g1]
 by_cases g2:(40:Int) < ps.length
 ·simp[plV,g1,g2]
 have hpl:plV bs ps w0 w1=[.lst (bfC bs) bs.length 3,.lst (pcC ps) ps.length 3,.i w0.buf,.i w0.at_,.i w0.size,.i w1.buf,.i w1.at_,.i w1.size]:=rfl
 simp[hpl,g1,g2]
 rw[←hpl]
 refine CallL_F (expand_Check_ok vs bs ps w0 w1 (by omega) hb) (bors_self _ (by simp[dats,LV.dat,vsC_dats,plV_dats])) ?_
 simp[hpl]
 rw[←hpl]
 refine CallL_F (ref22_Check_ok vs bs ps w0 w1 (by omega)) (bors_self _ (by simp[dats,LV.dat,vsC_dats,plV_dats])) ?_
 have hf:o.f=[.i o.kind,.i o.d,.i o.e,.i o.a,.i o.b,.i o.c,.u o.imm]:=rfl
 simp[hf]
 refine CallL_F (expand_Has_ok o.kind) (by simp) ?_
 simp[hpl]
 refine CallL_F (ref22_Has_ok o.kind) (by simp) ?_
 simp[eqbP]
 rw[←hf]
 refine CallL_F (expand_Public_ok vs o) (bors_self _ (by simp[dats,LV.dat,vsC_dats,hf])) ?_
 simp[hf]
 rw[←hf]
 refine CallL_F (ref22_Public_ok vs o) (bors_self _ (by simp[dats,LV.dat,vsC_dats,hf])) ?_
 simp[eqbP]
end Go.Proofs.YtocgdaojgjnfcaaGreat
