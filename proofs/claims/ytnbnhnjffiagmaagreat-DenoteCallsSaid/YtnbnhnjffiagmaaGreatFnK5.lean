/- Kernels: the document's way to look at one operation. -/
import Derived.Test.YtnbnhnjffiagmaaGreatFnK4
namespace Go.Proofs.YtnbnhnjffiagmaaGreat
open Go.Sv
set_option linter.unusedSimpArgs false
set_option maxRecDepth 10000
theorem ref19_One_ok (vs:List Vr) (o:Ko):FnS Tryz.prog 66 [.lst (vsC vs) vs.length 3,.agg o.f] (.bool (oneB vs o)) []:=by
 refine FnS.val rfl (call_body r_ref19_One k_ref19_One (by simp) ?_)
 have hC:o.f=[.i o.kind,.i o.d,.i o.e,.i o.a,.i o.b,.i o.c,.u o.imm]:=rfl
 by_cases h17:o.kind=17
 ·simp[c_ref19_One,hC,h17]
  have hf:=ref19_need_ok (vsC vs) vs.length o
  rw[hC,h17] at hf
  refine CallL_F hf (bors_self _ (by simp[dats,LV.dat,vsC_dats])) ?_
  simp[oneB,h17]
 simp[c_ref19_One,hC,h17]
 refine CallL_F (ref19_shape_ok o.kind) (by simp) ?_
 simp[hC]
 rw[←hC]
 refine CallL_F (ref19_fields_ok o) (bors_self _ rfl) ?_
 cases hs:shapeN o.kind with
 | none=>simp[shapeZ,hs,oneB,h17]
 | some s =>
 have s0:¬ ((s:Int) < 0):=by omega
 simp[shapeZ,hs,hC,s0]
 rw[←hC]
 refine CallL_F (ref19_number_ok o) (bors_self _ rfl) ?_
 cases hn:numB o with
 | false=>simp[oneB,h17,hs,hn]
 | true =>
 have hs32:=shape_bit hs
 simp[hC]
 refine loop_nx (fun ρ D G N=>∃ i:Nat,D=[]∧G=[.cells o.f 0,.cells ((ptL o).map .i) 1]∧N+i=5∧lk ρ 0=.lst (vsC vs) vs.length 3∧lk ρ 3=.ptr 0 0∧lk ρ 5=.i s∧lk ρ 6=.ptr 1 0∧lk ρ 7=.bool (secU vs o s i)∧lk ρ 8=.i i∧∀ j,j < i→partOk vs.length s j (gd (ptL o) j)=true) (N:=5) ⟨0,by simp[ptL,secU,hC]⟩ ?_
 rintro N ρ D G ⟨i,rfl,rfl,hN,h0,h3,h5,h6,h7,h8,hp⟩ Nx hNx
 by_cases hi:5≤i
 case neg =>
  have g:(i:Int) < 5:=by omega
  have g2:i < 5:=by omega
  have hg:=map_at (f:=LV.i) (at_getD (l:=ptL o) (u:=i) g2)
  have good:partOk vs.length s i (gd (ptL o) i)=true→∀ j,j < i+1→partOk vs.length s j (gd (ptL o) j)=true:=fun h j hj=>by
   by_cases e:j=i
   ·rw[e]; exact h
   ·exact hp j (by omega)
  have bad:partOk vs.length s i (gd (ptL o) i)=false→oneB vs o=false:=fun h=>by
   simp[oneB,h17,hs,partsB_no g2 h]
  have pb:=bit_test s i
  have su:=secU_succ vs o s i
  generalize gd (ptL o) i=v at *
  have e0:0≤(s:Int) / 2 ^ i:=Int.ediv_nonneg (by omega) (Int.pow_nonneg (by omega))
  have e1:(s:Int) / 2 ^ i < 9223372036854775808:=Int.lt_of_le_of_lt (Int.ediv_le_self _ (by omega)) (by omega)
  have em:max ((s:Int) / 2 ^ i) 0=(s:Int) / 2 ^ i:=by omega
  have hu:(iU (i:Int)).toNat=i:=iU_nat (by omega)
  have hi64:i≤64:=by omega
  cases hb:s.testBit i with
  | false =>
   rw[hb] at pb su
   simp only[Bool.false_and,Bool.or_false] at su
   by_cases v1:v=-1
   ·simp[h0,h3,h5,h6,h7,h8,g,nthL_at hg,hu,hi64,em,e0,e1,pb,v1]
    repeat (refine⟨by omega,?_⟩)
    exact hNx _ _ _ ⟨N - 1,by omega,i+1,rfl,rfl,by omega,by simp[h0],by simp[h3],by simp[h5],by simp[h6],by simp[h7,su],by simp,good (by simp[partOk,hb,v1])⟩
   ·simp[h0,h3,h5,h6,h7,h8,g,nthL_at hg,hu,hi64,em,e0,e1,pb,v1]
    repeat (refine⟨by omega,?_⟩)
    exact bad (by simp[partOk,hb,v1])
  | true =>
   rw[hb] at pb su
   simp only[Bool.true_and] at su
   by_cases v0:v < 0
   ·simp[h0,h3,h5,h6,h7,h8,g,nthL_at hg,hu,hi64,em,e0,e1,pb,v0]
    repeat (refine⟨by omega,?_⟩)
    exact bad (by simp[partOk,hb,thereB]; omega)
   by_cases v1:(vs.length:Int)≤v
   ·simp[h0,h3,h5,h6,h7,h8,g,nthL_at hg,hu,hi64,em,e0,e1,pb,v0,v1]
    repeat (refine⟨by omega,?_⟩)
    exact bad (by simp[partOk,hb,thereB]; omega)
   have hv:inV vs v:=⟨by omega,by omega⟩
   have ok:=good (by simp[partOk,hb,thereB]; omega)
   obtain⟨k,rfl,hk,ek⟩:=hv.at
   have q1:=vs_at1 ek
   simp only[Int.toNat_natCast] at q1 su
   have v2:¬ vs.length≤k:=by omega
   have k0:¬ (k:Int) < 0:=by omega
   have next:∀ ρ' b,secU vs o s (i+1)=b→lk ρ' 0=.lst (vsC vs) vs.length 3→lk ρ' 3=.ptr 0 0→lk ρ' 5=.i s→lk ρ' 6=.ptr 1 0→lk ρ' 7=.bool b→lk ρ' 8=.i ((i:Int)+1)→Nx ρ' [] [.cells o.f 0,.cells ((ptL o).map .i) 1]:=by
    rintro ρ' b rfl a0 a3 a5 a6 a7 a8
    exact hNx _ _ _ ⟨N - 1,by omega,i+1,rfl,rfl,by omega,a0,a3,a5,a6,a7,by rw[a8]; simp,ok⟩
   by_cases c2:(2:Int)≤(i:Int)
   ·have c2n:2≤i:=by omega
    cases ha:secU vs o s i with
    | false =>
     rw[ha] at su h7
     simp[c2n] at su
     simp[h0,h3,h5,h6,h7,h8,g,nthL_at hg,nthL_at q1,hu,hi64,em,e0,e1,pb,v2,hk,c2,k0]
     repeat (refine⟨by omega,?_⟩)
     exact next _ _ su (by simp[h0]) (by simp[h3]) (by simp[h5]) (by simp[h6]) (by simp) (by simp)
    | true =>
     rw[ha] at su h7
     simp at su
     simp[h0,h3,h5,h6,h7,h8,g,nthL_at hg,hu,hi64,em,e0,e1,pb,v2,hk,c2,k0]
     repeat (refine⟨by omega,?_⟩)
     exact next _ _ su (by simp[h0]) (by simp[h3]) (by simp[h5]) (by simp[h6]) (by simp) (by simp)
   have c2n:¬ 2≤i:=by omega
   by_cases c14:o.kind=14
   ·cases ha:secU vs o s i with
    | false =>
     rw[ha] at su h7
     simp[c2n,c14] at su
     simp[h0,h3,h5,h6,h7,h8,g,nthL_at hg,nthL_at q1,hu,hi64,em,e0,e1,pb,v2,hk,c2,k0,hC,c14]
     repeat (refine⟨by omega,?_⟩)
     rw[←c14,←hC]
     exact next _ _ su (by simp[h0]) (by simp[h3]) (by simp[h5]) (by simp[h6]) (by simp) (by simp)
    | true =>
     rw[ha] at su h7
     simp at su
     simp[h0,h3,h5,h6,h7,h8,g,nthL_at hg,hu,hi64,em,e0,e1,pb,v2,hk,c2,k0,hC,c14]
     repeat (refine⟨by omega,?_⟩)
     rw[←c14,←hC]
     exact next _ _ su (by simp[h0]) (by simp[h3]) (by simp[h5]) (by simp[h6]) (by simp) (by simp)
   ·simp[c2n,c14] at su
    simp[h0,h3,h5,h6,h7,h8,g,nthL_at hg,nthL_at q1,hu,hi64,em,e0,e1,pb,v2,hk,c2,k0,hC,c14]
    repeat (refine⟨by omega,?_⟩)
    rw[←hC]
    exact next _ _ su (by simp[h0]) (by simp[h3]) (by simp[h5]) (by simp[h6]) (by simp[h7]) (by simp)
 have hp5:partsB vs.length s o=true:=partsB_all fun j hj=>hp j (by omega)
 have hin:=parts_in hs hp5
 have ei:i=5:=by omega
 subst ei
 rw[secU_5 hs hp5] at h7
 simp[h0,h3,h5,h6,h7,h8]
 refine loop_nx (fun ρ D G N=>∃ i:Nat,D=[]∧G=[.cells o.f 0,.cells ((ptL o).map .i) 1]∧N+i=2∧lk ρ 0=.lst (vsC vs) vs.length 3∧lk ρ 3=.ptr 0 0∧lk ρ 6=.ptr 1 0∧lk ρ 7=.bool (secB vs o)∧lk ρ 10=.i i∧∀ j,j < i→outOk vs (secB vs o) (gd (ptL o) j)=true) (N:=2) ⟨0,by simp[h0,h3,h6,h7]⟩ ?_
 clear h0 h3 h5 h6 h7 h8 hp hNx
 rintro N ρ D G ⟨i,rfl,rfl,hN,h0,h3,h6,h7,h10,hp⟩ Nx hNx
 by_cases hi:2≤i
 case neg =>
  have g:(i:Int) < 2:=by omega
  have g5:(i:Int) < 5:=by omega
  have g2:i < 2:=by omega
  have hg:=map_at (f:=LV.i) (at_getD (l:=ptL o) (u:=i) (show i < 5 by omega))
  have good:outOk vs (secB vs o) (gd (ptL o) i)=true→∀ j,j < i+1→outOk vs (secB vs o) (gd (ptL o) j)=true:=fun h j hj=>by
   by_cases e:j=i
   ·rw[e]; exact h
   ·exact hp j (by omega)
  have bad:outOk vs (secB vs o) (gd (ptL o) i)=false→oneB vs o=false:=fun h=>by
   have hi2:i=0∨i=1:=by omega
   rcases hi2 with rfl | rfl
   ·have h:outOk vs (secB vs o) o.d=false:=h
    simp[oneB,h17,hs,h]
   ·have h:outOk vs (secB vs o) o.e=false:=h
    simp[oneB,h17,hs,h]
  have hin2:gd (ptL o) i=-1∨inV vs (gd (ptL o) i):=by
   have hi2:i=0∨i=1:=by omega
   rcases hi2 with rfl | rfl
   ·exact hin.d
   ·exact hin.e
  have next:∀ ρ',outOk vs (secB vs o) (gd (ptL o) i)=true→lk ρ' 0=.lst (vsC vs) vs.length 3→lk ρ' 3=.ptr 0 0→lk ρ' 6=.ptr 1 0→lk ρ' 7=.bool (secB vs o)→lk ρ' 10=.i ((i:Int)+1)→Nx ρ' [] [.cells o.f 0,.cells ((ptL o).map .i) 1]:=by
   intro ρ' ok a0 a3 a6 a7 a10
   exact hNx _ _ _ ⟨N - 1,by omega,i+1,rfl,rfl,by omega,a0,a3,a6,a7,by rw[a10]; simp,good ok⟩
  generalize gd (ptL o) i=v at *
  rcases hin2 with rfl | hv
  ·simp[h0,h3,h6,h7,h10,g,g5,nthL_at hg]
   repeat (refine⟨by omega,?_⟩)
   exact next _ (by simp[outOk]) (by simp[h0]) (by simp[h3]) (by simp[h6]) (by simp[h7]) (by simp)
  ·obtain⟨k,rfl,hk,ek⟩:=hv.at
   have q1:=vs_at1 ek
   have q2:=vs_at2 ek
   simp only[Int.toNat_natCast] at q1 q2
   have hgiv:givenB (gv vs k)=(decide ((gv vs k).mode=1) || decide ((gv vs k).mode=2)):=rfl
   have ho:outOk vs (secB vs o) (k:Int)=!(givenB (gv vs k) || (secB vs o && !(gv vs k).sec)):=by
    have k0:decide ((k:Int) < 0)=false:=by simp
    simp[outOk,k0]
   have k0:(0:Int)≤(k:Int):=by omega
   by_cases m1:(gv vs k).mode=1
   ·simp[h0,h3,h6,h7,h10,g,g5,nthL_at hg,nthL_at q2,hk,k0,m1]
    repeat (refine⟨by omega,?_⟩)
    exact bad (by rw[ho,hgiv]; simp[m1])
   by_cases m2:(gv vs k).mode=2
   ·simp[h0,h3,h6,h7,h10,g,g5,nthL_at hg,nthL_at q2,hk,k0,m1,m2]
    repeat (refine⟨by omega,?_⟩)
    exact bad (by rw[ho,hgiv]; simp[m2])
   cases hsec:secB vs o with
   | false =>
    rw[hsec] at h7 ho bad next
    simp[h0,h3,h6,h7,h10,g,g5,nthL_at hg,nthL_at q2,hk,k0,m1,m2]
    repeat (refine⟨by omega,?_⟩)
    exact next _ (by rw[ho,hgiv]; simp[m1,m2]) (by simp[h0]) (by simp[h3]) (by simp[h6]) (by simp[h7]) (by simp)
   | true =>
    rw[hsec] at h7 ho bad next
    cases hs1:(gv vs k).sec with
    | false =>
     simp[h0,h3,h6,h7,h10,g,g5,nthL_at hg,nthL_at q1,nthL_at q2,hk,k0,m1,m2,hs1]
     repeat (refine⟨by omega,?_⟩)
     exact bad (by rw[ho,hs1]; simp)
    | true =>
     simp[h0,h3,h6,h7,h10,g,g5,nthL_at hg,nthL_at q1,nthL_at q2,hk,k0,m1,m2,hs1]
     repeat (refine⟨by omega,?_⟩)
     exact next _ (by rw[ho,hgiv,hs1]; simp[m1,m2]) (by simp[h0]) (by simp[h3]) (by simp[h6]) (by simp[h7]) (by simp)
 have ei:i=2:=by omega
 subst ei
 have od:outOk vs (secB vs o) o.d=true:=hp 0 (by omega)
 have oe:outOk vs (secB vs o) o.e=true:=hp 1 (by omega)
 have hf7:o.f.length=7:=rfl
 have hf8:o.f.take 7=o.f:=rfl
 by_cases e0:o.e < 0
 ·simp[h0,h3,h10,hC,e0]
  rw[←hC]
  refine CallL_F (ref19_agree_ok vs o hin.alike) (bors_self _ (by simp[dats,LV.dat,vsC_dats,hC])) ?_
  simp[oneB,h17,hs,hn,hp5,od,oe,e0]
 ·by_cases e1:o.d=o.e
  ·simp[h0,h3,h10,hC,e0,e1]
   simp[oneB,h17,hs,e0,e1]
  ·simp[h0,h3,h10,hC,e0,e1]
   rw[←hC]
   refine CallL_F (ref19_agree_ok vs o hin.alike) (bors_self _ (by simp[dats,LV.dat,vsC_dats,hC])) ?_
   simp[oneB,h17,hs,hn,hp5,od,oe,e0,e1]
theorem ref19_makes_any {G:LHeap} {q st:Nat} {m:List Bool} {n:Nat} (o:Ko) {K:LV→LHeap→Prop} (hin:PartsIn n o) (hn:n=m.length) (hq:G[q]?=some (.dyn (m.map .bool) m.length 1 0 st))
  (k0:takenB m o=false→∀ G',(∀ p,p < G.length→G'[p]?=G[p]?)→K (.bool false) G')
  (k1:takenB m o=true→∀ G' st',G.length≤G'.length→(∀ p,p < G.length→p≠q→G'[p]?=G[p]?)→G'[q]?=some (.dyn ((stepM m o).map .bool) m.length 1 0 st')→K (.bool true) G'):CallL Tryz.prog (.fn 67) [.dy q 0,.agg o.f] G K:=by
 refine call_body r_ref19_makes k_ref19_makes (by simp) ?_
 have hC:o.f=[.i o.kind,.i o.d,.i o.e,.i o.a,.i o.b,.i o.c,.u o.imm]:=rfl
 have hql:q < G.length:=(List.getElem?_eq_some_iff.1 hq).1
 simp[c_ref19_makes,hC]
 rw[←hC]
 refine CallL_F (ref19_fields_ok o) (bors_self _ rfl) ?_
 simp
 have hql2:∀ x,(G++x)[q]?=some (.dyn (m.map .bool) m.length 1 0 st):=fun x=>by rw[old1 hql]; exact hq
 have a0:∀ x y,(G++[x,y])[G.length]?=some x:=fun x y=>by simp
 have a1:∀ x y,(G++[x,y])[G.length+1]?=some y:=fun x y=>by simp
 have hne1:G.length≠q:=by omega
 have hne2:G.length+1≠q:=by omega
 refine loop_nx (fun ρ D G' N=>∃ i:Nat,D=[]∧G'=G++[.cells o.f 0,.cells ((ptL o).map .i) 1]∧N+i=5∧lk ρ 0=.dy q 0∧lk ρ 3=.ptr G.length 0∧lk ρ 5=.ptr (G.length+1) 0∧lk ρ 6=.i i∧takU m o i=true) (N:=5) ⟨0,by simp[ptL,takU]⟩ ?_
 rintro N ρ D G' ⟨i,rfl,rfl,hN,h0,h3,h5,h6,hp⟩ Nx hNx
 by_cases hi:5≤i
 case neg =>
  have g:(i:Int) < 5:=by omega
  have g2:i < 5:=by omega
  have hg:=map_at (f:=LV.i) (at_getD (l:=ptL o) (u:=i) g2)
  have su:=takU_succ m o i
  rw[hp,Bool.true_and] at su
  have bad:takU m o (i+1)=false→takenB m o=false:=fun h=>by
   rw[←takU_5 hin]
   unfold takU at h ⊢
   rw[List.all_eq_false] at h ⊢
   obtain⟨j,hj,h⟩:=h
   exact⟨j,by have:=List.mem_range.1 hj; exact List.mem_range.2 (by omega),h⟩
  have hrange:gd (ptL o) i=-1∨(0≤gd (ptL o) i∧gd (ptL o) i < n)∨(¬ (2≤i)∧o.kind≠14)∨gd (ptL o) i < 0:=by
   have hi5:i=0∨i=1∨i=2∨i=3∨i=4:=by omega
   rcases hi5 with rfl | rfl | rfl | rfl | rfl
   ·rcases hin.d with h | h
    ·exact .inl h
    ·exact .inr (.inl h)
   ·rcases hin.e with h | h
    ·exact .inl h
    ·exact .inr (.inl h)
   ·by_cases h:o.a < 0
    ·exact .inr (.inr (.inr h))
    ·exact .inr (.inl (hin.takes o.a (by simp[takesL]; omega)))
   ·by_cases h:o.b < 0
    ·exact .inr (.inr (.inr h))
    ·exact .inr (.inl (hin.takes o.b (by simp[takesL]; omega)))
   ·by_cases h:o.c < 0
    ·exact .inr (.inr (.inr h))
    ·exact .inr (.inl (hin.takes o.c (by simp[takesL]; omega)))
  have next:∀ ρ',takU m o (i+1)=true→lk ρ' 0=.dy q 0→lk ρ' 3=.ptr G.length 0→lk ρ' 5=.ptr (G.length+1) 0→lk ρ' 6=.i ((i:Int)+1)→Nx ρ' [] (G++[.cells o.f 0,.cells ((ptL o).map .i) 1]):=by
   intro ρ' ok b0 b3 b5 b6
   exact hNx _ _ _ ⟨N - 1,by omega,i+1,rfl,rfl,by omega,b0,b3,b5,by rw[b6]; simp,ok⟩
  generalize gd (ptL o) i=v at *
  have fr:∀ p,p < G.length→(G++[LObj.cells o.f 0,.cells ((ptL o).map .i) 1])[p]?=G[p]?:=fun p hp=>old1 hp
  by_cases v0:0≤v
  case neg =>
   have d0:decide (v < 0)=true:=by simp; omega
   simp[h0,h3,h5,h6,g,↓a1,nthL_at hg,v0]
   repeat (refine⟨by omega,?_⟩)
   exact next _ (by rw[su,d0]; rfl) (by simp[h0]) (by simp[h3]) (by simp[h5]) (by simp)
  have d0:decide (v < 0)=false:=by simp; omega
  rw[d0] at su
  simp only[Bool.not_false,Bool.true_and] at su
  have main:(2≤i∨o.kind=14)→v < m.length:=fun h=>by
   rcases hrange with h | h | h | h <;> omega
  obtain⟨k,rfl⟩:=Int.eq_ofNat_of_zero_le v0
  simp only[Int.toNat_natCast] at su
  by_cases c2:(2:Int)≤(i:Int)
  ·have c2n:2≤i:=by omega
   have hk:k < m.length:=by have:=main (.inl c2n); omega
   have q1:=map_at (f:=LV.bool) (at_gb hk)
   simp[c2n] at su
   cases hb:gb m k with
   | true =>
    simp[h0,h3,h5,h6,g,↓a0,↓a1,↓hql2,nthL_at hg,v0,c2,hk,nthL_at q1,hb]
    repeat (refine⟨by omega,?_⟩)
    exact next _ (by rw[su,hb]) (by simp[h0]) (by simp[h3]) (by simp[h5]) (by simp)
   | false =>
    simp[h0,h3,h5,h6,g,↓a0,↓a1,↓hql2,nthL_at hg,v0,c2,hk,nthL_at q1,hb]
    repeat (refine⟨by omega,?_⟩)
    exact k0 (bad (by rw[su,hb])) _ fr
  have c2n:¬ 2≤i:=by omega
  by_cases c14:o.kind=14
  ·have hk:k < m.length:=by have:=main (.inr c14); omega
   have q1:=map_at (f:=LV.bool) (at_gb hk)
   simp[c2n,c14] at su
   cases hb:gb m k with
   | true =>
    simp[h0,h3,h5,h6,g,↓a0,↓a1,↓hql2,nthL_at hg,v0,c2,hk,nthL_at q1,hb,hC,c14]
    repeat (refine⟨by omega,?_⟩)
    rw[←c14,←hC]
    exact next _ (by rw[su,hb]) (by simp[h0]) (by simp[h3]) (by simp[h5]) (by simp)
   | false =>
    simp[h0,h3,h5,h6,g,↓a0,↓a1,↓hql2,nthL_at hg,v0,c2,hk,nthL_at q1,hb,hC,c14]
    repeat (refine⟨by omega,?_⟩)
    rw[←c14,←hC]
    exact k0 (bad (by rw[su,hb])) _ fr
  ·simp[c2n,c14] at su
   simp[h0,h3,h5,h6,g,↓a0,↓a1,nthL_at hg,v0,c2,hC,c14]
   repeat (refine⟨by omega,?_⟩)
   rw[←hC]
   exact next _ su (by simp[h0]) (by simp[h3]) (by simp[h5]) (by simp)
 have ei:i=5:=by omega
 subst ei
 rw[takU_5 hin] at hp
 by_cases hd:0≤o.d
 ·have hdm:o.d < m.length:=by rcases hin.d with h | h <;> omega
  have hset:=lay_setF LV.bool m o.d.toNat true (by omega)
  simp[h0,h3,h6,↓a0,↓hql2,hC,hd,hdm,hset]
  repeat (refine⟨by omega,?_⟩)
  refine k1 hp _ (st+1) (by simp) (fun p hp hne=>?_) ?_
  ·rw[List.getElem?_set_ne (by omega),old1 hp]
  ·rw[List.getElem?_set_self (by simp; omega)]
   simp[stepM,hd]
 ·simp[h0,h3,h6,↓a0,↓hql2,hC,hd]
  repeat (refine⟨by omega,?_⟩)
  refine k1 hp _ st (by simp) (fun p hp hne=>old1 hp) ?_
  rw[hql2]; simp[stepM,hd]
end Go.Proofs.YtnbnhnjffiagmaaGreat
