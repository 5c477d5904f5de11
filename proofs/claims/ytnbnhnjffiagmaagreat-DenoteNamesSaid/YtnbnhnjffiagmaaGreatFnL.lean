/- Naturals: quotients. -/
import Derived.Test.YtnbnhnjffiagmaaGreatFnK
namespace Go.Proofs.YtnbnhnjffiagmaaGreat
open Go.Sv
set_option linter.unusedSimpArgs false
def c_nat_Div:LC:=(.seq (.ops [.z 4 (.move (.c .nilSl)),.z 5 (.move (.c .nilSl)),.z 6 (.move (.c (.i 0)))]) (.seq (.ops [.m 11 1,.z 12 (.callV (.c (.fn (.func 42) [] [])) [.t 11]),.m 1 12]) (.seq (.seq (.ops [.m 13 1,.z 14 (.lenSl (.t 13)),.z 15 (.bin .eql true 3 (.t 14) (.c (.i 0)))]) (.cond (.t 15) (.seq (.ops [.z 4 (.move (.c .nilSl)),.z 5 (.move (.c .nilSl)),.z 6 (.move (.c (.i 2)))]) .ret) .skip)) (.seq (.ops [.m 16 0,.z 17 (.lenSl (.t 16)),.z 18 (.mkSl 1 [(.u 0)] (.t 17) (.t 17)),.m 4 18]) (.seq (.ops [.z 7 (.move (.c .nilSl))]) (.seq (.seq (.ops [.m 19 0,.z 20 (.callV (.c (.fn (.func 52) [] [])) [.t 19]),.z 21 (.bin .sub true 3 (.t 20) (.c (.i 1))),.m 8 21]) (.block 0 (.loop (.seq (.seq (.ops [.m 22 8,.z 23 (.bin .geq true 3 (.t 22) (.c (.i 0)))]) (.cond (.t 23) .skip (.exit 0))) (.seq (.block 1 (.seq (.ops [.m 26 7,.m 27 0,.m 28 8,.z 29 (.bin .quo true 3 (.t 28) (.c (.i 64))),.z 30 (.ixAddr 1 (.t 27) (.t 29)),.l 31 30,.m 32 8,.z 33 (.bin .rem true 3 (.t 32) (.c (.i 64))),.z 34 (.bin .shr false 28 (.t 31) (.t 33)),.z 35 (.bin .and true 28 (.t 34) (.c (.u 1))),.z 36 (.callV (.c (.fn (.func 165) [] [])) [.t 26,.t 35]),.m 7 36]) (.seq (.ops [.m 37 7,.m 38 1,.z 39 (.callV (.c (.fn (.func 53) [] [])) [.t 37,.t 38]),.z 40 (.bin .geq true 3 (.t 39) (.c (.i 0)))]) (.cond (.t 40) (.seq (.ops [.m 42 7,.m 43 1,.z 44 (.callV (.c (.fn (.func 142) [] [])) [.t 42,.t 43]),.m 41 44,.z 45 (.extract 0 (.t 41)),.z 46 (.extract 1 (.t 41)),.m 9 45,.m 10 46]) (.seq (.ops [.m 47 9,.m 7 47]) (.draw [(.m 48 4,[]),(.m 49 8,[]),(.z 50 (.bin .quo true 3 (.t 49) (.c (.i 64))),[]),(.z 51 (.ixAddr 1 (.t 48) (.t 50)),[]),(.l 52 51,[]),(.m 53 8,[]),(.z 54 (.bin .rem true 3 (.t 53) (.c (.i 64))),[]),(.z 55 (.bin .shl true 28 (.c (.u 1)) (.t 54)),[]),(.z 56 (.bin .or false 28 (.t 52) (.t 55)),[]),(.z 57 (.ixAddr 1 (.t 48) (.t 50)),[]),(⟨none,none,.store 1 (.t 57) (.t 56)⟩,[])]))) .skip)))) (.ops [.m 24 8,.z 25 (.bin .sub true 3 (.t 24) (.c (.i 1))),.m 8 25])))))) (.seq (.ops [.m 58 4,.z 59 (.callV (.c (.fn (.func 42) [] [])) [.t 58]),.m 60 7,.z 61 (.callV (.c (.fn (.func 42) [] [])) [.t 60]),.m 4 59,.m 5 61,.z 6 (.move (.c (.i 0)))]) .ret)))))))
theorem r_nat_Div:resFn Tryz.prog 144=some ⟨62,c_nat_Div.r,[.tmp 4,.tmp 5,.tmp 6]⟩:=by kernel_rfl
theorem k_nat_Div:c_nat_Div.ok=true:=by kernel_rfl
theorem nat_Div_ok (a by':List UInt64) (ha:a.length≤10000) (hb:by'.length≤10000):FnS Tryz.prog 144 [LU a,LU by'] (.tup [.dy 0 0,.dy 1 0,.i (if val by'=0 then 2 else 0)]) [RU (if val by'=0 then [] else toL (val a / val by')),RU (if val by'=0 then [] else toL (val a % val by'))]:=by
 refine FnS.row2E (call_body r_nat_Div k_nat_Div (by simp) ?_)
 simp[c_nat_Div]
 refine CallL_F (nat_Trim_ok by' (by omega)) (by simp) ?_
 have hlb:=toL_length_val by'
 by_cases h0:val by'=0
 ·simp[RU,h0,toL_zero,RowAt]
  exact⟨_,_,⟨rfl,rfl⟩,rfl,rfl,by simp⟩
 have hb0:toL (val by')≠[]:=fun e=>h0 (toL_eq_nil.1 e)
 simp[RU,h0,hb0]
 obtain⟨b,eb⟩:∃ b,toL (val by')=b:=⟨_,rfl⟩
 have vb:val by'=val b:=by rw[←eb,val_toL]
 rw[eb] at hlb hb0
 rw[vb] at h0
 rw[eb,vb]
 have hbl:¬ (b.length:Int)=0:=by
  have:b.length≠0:=fun e=>hb0 (List.eq_nil_of_length_eq_zero e)
  omega
 simp[hbl,repU]
 refine⟨by omega,?_⟩
 refine CallL_F (nat_Bits_ok a (by omega)) (by simp) ?_
 have hbl:=blen_le (val_lt a)
 simp
 refine⟨by omega,?_⟩
 refine loop_nx (fun ρ D G N=>∃ (q r:List UInt64) (v:LV) (st:Nat),D=[]∧N≤64 * a.length∧lk ρ 0=LU a∧lk ρ 1=LU b∧lk ρ 4=.dy 0 0∧G[0]?=some (.dyn (q.map .u) a.length 1 0 st)∧q.length=a.length∧lk ρ 7=v∧RowAt G v r∧(∀ k,v≠.dy 0 k)∧lk ρ 8=.i ((N:Int) - 1)∧r.length+N≤64 * a.length∧DivInv (val a) (val b) N q (val r)) (N:=blen (val a)) ⟨List.replicate a.length 0,[],.nilSl,0,by simp[RowAt,val,hbl]; exact div_start⟩ ?_
 rintro N ρ D G ⟨q,r,v,st,rfl,hN,h0',h1,h4,hg,hql,h7,hr,hne,h8,hrl,hD⟩ Nx hNx
 cases N with
 | zero =>
  obtain⟨e1,e2⟩:=div_end hD
  simp[h8,h4]
  refine CallL_row (nat_Trim_ok q (by omega)) (bors1 (RowAt.bor (l:=q) (.inr ⟨0,0,st,rfl,by rw[hql]; exact hg⟩))) ?_
  simp[h7]
  refine CallL_row (nat_Trim_ok r (by omega)) (bors1 (hr.app _).bor) ?_
  rw[e1,e2]
  simp
  exact⟨_,_,⟨rfl,rfl⟩,.inr ⟨_,0,0,rfl,by simp[RU]⟩,.inr ⟨_,0,0,rfl,by simp[RU]⟩,by simp⟩
 | succ n =>
  have e:((n+1:Nat):Int) - 1=n:=by omega
  rw[e] at h8
  have hto:((n:Int) / 64).toNat=n / 64:=by omega
  have hmo:((n:Int) % 64).toNat=n % 64:=by omega
  have hmt:(n:Int).tmod 64=(n:Int) % 64:=Int.tmod_eq_emod_of_nonneg (by omega)
  have hn64:n / 64 < a.length:=by omega
  have hnq:n / 64 < q.length:=by omega
  have hbit:=bit_u' (a.getD (n / 64) 0) (n % 64)
  rw[bit_at] at hbit
  obtain⟨bt,hbt⟩:∃ bt:UInt64,bt=if (val a).testBit n=true then 1 else 0:=⟨_,rfl⟩
  rw[←hbt] at hbit
  have hbn:bt.toNat=((val a).testBit n).toNat:=by
   rw[hbt]
   cases (val a).testBit n <;> rfl
  have hb1:bt.toNat≤1:=by rw[hbn]; exact Bool.toNat_le _
  simp at hbit
  simp[h0',h8,hto,hmt,hmo,hn64,h7]
  simp[hn64] at hbit
  rw[hbit]
  refine⟨by omega,by omega,by omega,by omega,?_⟩
  refine nat_row_shift_ok hr hb1 (by omega) (fun v' G' l' hr' hv' hll' hfr=>?_)
  obtain⟨w0,m0⟩:=hfr 0 _ hg hne
  simp[h1]
  refine CallL_F (nat_Compare_ok l' b (by omega) (by omega)) (bors2 hr'.bor (by simp)) ?_
  rw[hbn] at hv'
  have hB:0 < val b:=by omega
  by_cases hge:val b≤val l'
  ·have hge':0≤cmpN (val l') (val b):=cmpN_ge.2 hge
   have hlt':¬ val l' < val b:=by omega
   have hdt:=div_take (q:=q) hB hnq hD (by rw[←hv']; exact hge)
   rw[←hv'] at hdt
   have hlay:=layU q (n / 64) (orU (q.getD (n / 64) 0) (shlU 1 (n % 64))) hnq
   have hqn:q[n / 64]=q.getD (n / 64) 0:=by simp[hnq]
   have hlen:(toL (val l' - val b)).length≤l'.length:=toL_length_le (by have:=val_lt l'; omega)
   generalize q.getD (n / 64) 0=x at *
   simp[hge',h1]
   refine CallL_S (nat_Sub_ok l' b (by omega) (by omega)) (bors2 hr'.bor (by simp)) ?_
   have w0':∀ x,(G'++x)[0]?=some (.dyn (q.map .u) a.length 1 0 st):=fun x=>gapp w0 x
   have w0e : ∀ (x : LHeap) (h : 0 < (G' ++ x).length), (G' ++ x)[0]'h = .dyn (q.map .u) a.length 1 0 st := fun x h => (List.getElem?_eq_some_iff.1 (w0' x)).2
   simp[hlt',h4,h8,hto,hmt,hmo,w0',w0e,hn64,hql,hqn,hlay]
   refine⟨by omega,by omega,by omega,by omega,by omega,by omega,by omega,by omega,hNx _ _ _ ⟨n,by omega,q.set (n / 64) (orU x (shlU 1 (n % 64))),toL (val l' - val b),.dy G'.length 0,st+1,rfl,by omega,by simp[h0'],by simp[h1],by simp[h4],by rw[gset (w0' _)]; simp,by simp[hql],by simp,?_,?_,by simp,by omega,by rw[val_toL]; exact hdt⟩⟩
   ·exact .inr ⟨G'.length,0,0,rfl,by rw[gset_ne (by have:=(List.getElem?_eq_some_iff.1 w0).1; omega)]; simp[RU]⟩
   ·intro k e
    injection e with e
    have:=(List.getElem?_eq_some_iff.1 w0).1
    omega
  ·have hlt:val l' < val b:=by omega
   have hge':¬ 0≤cmpN (val l') (val b):=fun h=>hge (cmpN_ge.1 h)
   have hdk:=div_keep (q:=q) hB hD (by rw[←hv']; exact hlt)
   rw[←hv'] at hdk
   simp[hge',h8]
   exact⟨by omega,hNx _ _ _ ⟨n,by omega,q,l',v',st,rfl,by omega,by simp[h0'],by simp[h1],by simp[h4],w0,hql,by simp,hr',m0,by simp,by omega,hdk⟩⟩
end Go.Proofs.YtnbnhnjffiagmaaGreat
