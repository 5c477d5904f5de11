/- Kernels: the document's ends. -/
import Derived.Test.YtnbnhnjffiagmaaGreatFnK7
namespace Go.Proofs.YtnbnhnjffiagmaaGreat
open Go.Sv
set_option linter.unusedSimpArgs false
set_option maxRecDepth 10000
theorem gd_ext {a b:List Int} (h:a.length=b.length) (he:∀ j,j < a.length→gd a j=gd b j):a=b:=by
 apply List.ext_getElem h
 intro j h1 h2
 have:=he j h1
 simpa [gd,List.getD_eq_getElem?_getD,h1,h2] using this
theorem repI (n:Nat):repL [.i 0] n=(List.replicate n (0:Int)).map LV.i:=by
 induction n with
 | zero=>rfl
 | succ n ih=>simp[repL,ih,List.replicate_succ]
theorem ref19_Ends_ok (vs:List Vr) (os rs:List Ko) (hl1:vs.length≤9223372036854775807):FnV Tryz.prog 38 [.agg (kerC vs os rs)] (.lst ((endsZ vs os rs).map .i) (endsZ vs os rs).length 1):=by
 have di:∀ l:List Int,dats (l.map .i)=true:=fun l=>dats_map (fun _=>rfl) l
 have hkd:dats (kerC vs os rs)=true:=by simp[kerC,dats,LV.dat,vsC_dats,osC_dats]
 refine FnV.mk (by simp[LV.dat,di]) (call_body r_ref19_Ends k_ref19_Ends (by simp) ?_)
 have hk3:(kerC vs os rs).length=3:=rfl
 have hkt:(kerC vs os rs).take 3=kerC vs os rs:=rfl
 simp[c_ref19_Ends,hk3,hkt]
 refine CallL_F (ref19_Check_ok vs os rs hl1) (bors_self _ (by simp[dats,LV.dat,hkd])) ?_
 cases hc:chkB vs os rs with
 | false=>simp[chkE,hc,endsZ,borR,bor]
 | true =>
 have hos:os.length≤4096:=by
  unfold chkB at hc
  simp only[Bool.and_eq_true,decide_eq_true_eq] at hc
  exact hc.2.1
 obtain⟨hv,_,_,_,ht⟩:varsB vs=true∧True∧True∧True∧∃ m,ogo vs (startM vs) 0 os=some (m,0):=by
  have h:=hc
  unfold chkB at h
  simp only[Bool.and_eq_true] at h
  refine⟨h.1,trivial,trivial,trivial,?_⟩
  have h2:=h.2.2.2.2
  split at h2
  ·cases h2
  ·rename_i m dp he
   simp only[Bool.and_eq_true,decide_eq_true_eq] at h2
   rw[h2.2] at he
   exact⟨m,he⟩
 obtain⟨m0,ht⟩:=ht
 have hbal:bal kdK 0 os:=ogo_bal os (startM vs) m0 0 (by simpa using ht)
 have hez:endsZ vs os rs=endsL kdK os:=by simp[endsZ,hc]
 rw[hez]
 have lo:os.length≤1048576:=by omega
 simp[chkE,hc,kerC,lo]
 refine⟨by omega,?_⟩
 refine loop_nx (fun ρ D G N=>∃ (i:Nat) (st:List Nat) (out outR:List Int) (sv:LV) (s':Nat),D=[]∧N+i=os.length∧lk ρ 1=.ptr 0 0∧lk ρ 3=.dy 1 0∧lk ρ 4=sv∧lk ρ 5=.i i∧2≤G.length ∧
   G[0]?=some (.cells (kerC vs os rs) 0)∧G[1]?=some (.dyn (outR.map .i) os.length 1 0 s')∧out.length=os.length∧outR.length=os.length∧(∀ j,j < i→gd outR j=gd out j)∧(∀ j,i≤j→j < os.length→gd out j=-1)∧Stk 2 G sv 1 st.length (st.reverse.map fun n:Nat=>.i n)∧st.length≤i∧(∀ a∈st,a < i)∧bal kdK st.length (os.drop i)∧endsG kdK i st out (os.drop i)=endsL kdK os) (N:=os.length)
  ⟨0,[],List.replicate os.length (-1),List.replicate os.length 0,.nilSl,0,rfl,by omega,by simp,by simp,by simp,by simp,by simp,by simp[kerC],by simp[repI],by simp,by simp,fun j hj=>by omega,fun j _ hj=>by simp[gd,List.getD_eq_getElem?_getD,hj],Stk.nil,by simp,by simp,by simpa using hbal,by simp[endsL]⟩ ?_
 rintro N ρ D G ⟨i,st,out,outR,sv,s',rfl,hN,h1,h3,h4,h5,hl2,hG0,hGp,hol,horl,hag,hneg,hst,hsl,hsa,hb,he⟩ Nx hNx
 have hl0:0 < G.length:=by omega
 have hl1:1 < G.length:=by omega
 by_cases g:i < os.length
 ·have qk:(osC os)[i * 7]?=some (.i (go os i).kind):=by have:=fm_at Ko.f_len (at_go g) (j:=0) (by omega); simpa [osC,Ko.f] using this
  rw[drop_go g] at hb he
  generalize go os i=o at *
  unfold bal at hb
  unfold endsG at he
  have set0:layLV (outR.map LV.i) i [.i (-1)]=(outR.map LV.i).set i (.i (-1)):=by
   rw[lay_set _ _ _ (by omega),List.map_set]
  have s1:∀ y,(G.set 1 y)[1]?=some y:=fun y=>List.getElem?_set_self (by omega)
  have s0:∀ y,(G.set 1 y)[0]?=some (.cells (kerC vs os rs) 0):=fun y=>by rw[List.getElem?_set_ne (by omega)]; exact hG0
  have hst1:∀ y,Stk 2 (G.set 1 y) sv 1 st.length (st.reverse.map fun n:Nat=>.i n):=fun y=>hst.set_lt (by omega)
  have ag0:∀ j,j < i+1→gd (outR.set i (-1)) j=gd out j:=fun j hj=>by
   rw[gd_set _ _ _ _ (by omega)]
   by_cases e:j=i
   ·rw[if_pos e,e,hneg i (Nat.le_refl _) g]
   ·rw[if_neg e]; exact hag j (by omega)
  by_cases k15:o.kind=15
  ·rw[if_pos (kdK_15.2 k15)] at hb he
   simp[h1,h3,h4,h5,g,hG0,kerC,hGp,horl,set0,↓s0,nthL_at qk,k15]
   refine⟨by omega,?_⟩
   refine Stk.push (hst1 _).push_end (by omega) (by simp; omega) (by omega) rfl fun v' G2 hs2 hfr2 hb2=>?_
   simp[h5]
   refine⟨by omega,hNx _ _ _ ⟨N - 1,by omega,i+1,i::st,out,outR.set i (-1),v',s'+1,rfl,by omega,by simp[h1],by simp[h3],by simp,by simp,hb2,?_,?_,hol,by simp[horl],ag0,fun j hj=>hneg j (by omega),?_,by simp; omega,?_,by simpa using hb,he⟩⟩
   ·rw[hfr2 0 (by omega),old1 (by simp; omega),s0]
   ·rw[hfr2 1 (by omega),old1 (by simp; omega),s1,List.map_set]
   ·rw[List.reverse_cons,List.map_append]; exact hs2
   ·intro a ha
    rcases List.mem_cons.1 ha with rfl | ha
    ·omega
    ·have:=hsa a ha; omega
  by_cases k16:o.kind=16
  ·rw[if_neg (fun h=>k15 (kdK_15.1 h)),if_pos (kdK_16.2 k16)] at hb he
   cases st with
   | nil=>exact absurd hb.1 (by simp)
   | cons a st =>
   have hal:=hsa a (List.mem_cons_self ..)
   simp only[List.length_cons,Nat.add_sub_cancel] at hb
   have hc1:((a::st).length:Int) - 1=(st.length:Nat):=by simp
   have set1:layLV ((outR.map LV.i).set i (.i (-1))) i [.i (a:Int)]=(outR.map LV.i).set i (.i (a:Int)):=by
    rw[←List.map_set,lay_set _ _ _ (by simp; omega),List.map_set,List.map_set,List.set_set]
   have set2:layLV ((outR.map LV.i).set i (.i (a:Int))) a [.i (i:Int)]=((outR.map LV.i).set i (.i (a:Int))).set a (.i (i:Int)):=by
    rw[←List.map_set,lay_set _ _ _ (by simp; omega),List.map_set]
   have ha2:a < os.length:=by omega
   simp[h1,h3,h4,h5,g,hG0,kerC,hGp,horl,set0,↓s0,nthL_at qk,k15,k16]
   refine⟨by omega,?_⟩
   refine (hst1 _).lenL ?_
   simp[h4,hc1]
   refine⟨by omega,(hst1 _).ix (by omega) (by rw[List.length_cons]; omega) fun p1 ver1 R1 m1 st1 hb1 hg1 hR1 hRl1=>?_⟩
   have hlast:R1[st.length]?=some (.i a):=by
    rw[hR1 _ (by simp)]
    simp
   simp[hg1,nthL_at hlast,h4]
   refine (hst1 _).lenL ?_
   simp[h4,hc1]
   refine⟨by omega,(hst1 _).cut (m:=st.length) (by simp) (fun K' k'=>k') (fun d K' k'=>⟨by omega,k'⟩) fun v' hs'=>?_⟩
   simp[h3,h5,↓s1,g,ha2,horl,set1,set2]
   refine⟨by omega,by omega,by omega,hNx _ _ _ ⟨N - 1,by omega,i+1,st,(out.set i a).set a i,(outR.set i a).set a i,v',s'+1+1+1,rfl,by omega,by simp[h1],by simp[h3],by simp,by simp,by simp; omega,?_,?_,by simp[hol],by simp[horl],fun j hj=>?_,fun j hj1 hj2=>?_,?_,by simp at hsl; omega,fun a' ha'=>by have:=hsa a' (List.mem_cons_of_mem _ ha'); omega,hb.2,he⟩⟩
   ·exact s0 _
   ·rw[s1,List.map_set,List.map_set]
   ·rw[gd_set (outR.set i a) a j i (by simp; omega),gd_set outR i j a (by omega),gd_set (out.set i a) a j i (by simp; omega),gd_set out i j a (by omega)]
    split
    ·rfl
    ·split
     ·rfl
     ·exact hag j (by omega)
   ·rw[gd_set (out.set i a) a j i (by simp; omega),gd_set out i j a (by omega),if_neg (by omega),if_neg (by omega)]
    exact hneg j (by omega) hj2
   ·have e:((a::st).reverse.map fun n:Nat=>LV.i n).take (st.length * 1)=st.reverse.map fun n:Nat=>LV.i n:=by
     rw[List.reverse_cons,List.map_append,Nat.mul_one,List.take_left' (by simp)]
    rw[e] at hs'
    first | exact hs'.set_lt (q:=1) (by omega) | exact (hs'.set_lt (q:=1) (by omega)).set_lt (q:=1) (by omega) | (have h9:=hs'.set_lt (q:=1) (ob:=.dyn (((outR.map LV.i).set i (.i (a:Int))).set a (.i (i:Int))) os.length 1 0 (s'+1+1+1)) (by omega); rw[List.set_set] at h9; exact h9)
  ·rw[if_neg (fun h=>k15 (kdK_15.1 h)),if_neg (fun h=>k16 (kdK_16.1 h))] at hb he
   simp[h1,h3,h4,h5,g,hG0,kerC,hGp,horl,set0,↓s0,nthL_at qk,k15,k16]
   refine⟨by omega,by omega,hNx _ _ _ ⟨N - 1,by omega,i+1,st,out,outR.set i (-1),sv,s'+1,rfl,by omega,by simp[h1],by simp[h3],by simp[h4],by simp,by simpa using hl2,s0 _,?_,hol,by simp[horl],ag0,fun j hj=>hneg j (by omega),hst1 _,by omega,fun a' ha'=>by have:=hsa a' ha'; omega,hb.2,he⟩⟩
   rw[s1,List.map_set]
 ·rw[List.drop_of_length_le (by omega)] at he
  have he:out=endsL kdK os:=by simpa [endsG] using he
  have ho:outR=out:=gd_ext (by omega) (fun j hj=>hag j (by omega))
  simp[h1,h3,h5,g,hG0,kerC]
  refine⟨_,_,_,⟨rfl,rfl,rfl⟩,⟨s',?_⟩,di _⟩
  rw[←he,←ho,horl]; exact hGp
end Go.Proofs.YtnbnhnjffiagmaaGreat
