/- Naturals: products of the document, quotients. -/
import Derived.Test.YtnbnhnjffiagmaaGreatFnI
namespace Go.Proofs.YtnbnhnjffiagmaaGreat
open Go.Sv
set_option linter.unusedSimpArgs false
def c_ref02_Mul:LC:=(.seq (.ops [.z 4 (.move (.c .nilSl))]) (.seq (.ops [.m 15 0,.z 16 (.callV (.c (.fn (.func 34) [] [])) [.t 15]),.m 17 1,.z 18 (.callV (.c (.fn (.func 34) [] [])) [.t 17]),.m 0 16,.m 1 18]) (.seq (.ops [.m 19 0,.z 20 (.lenSl (.t 19)),.m 21 1,.z 22 (.lenSl (.t 21)),.z 23 (.bin .add false 3 (.t 20) (.t 22)),.z 24 (.mkSl 1 [(.u 0)] (.t 23) (.t 23)),.m 5 24]) (.seq (.seq (.ops [.z 6 (.move (.c (.i 0)))]) (.block 0 (.loop (.seq (.seq (.ops [.m 25 6,.m 26 0,.z 27 (.lenSl (.t 26)),.z 28 (.bin .lss false 3 (.t 25) (.t 27))]) (.cond (.t 28) .skip (.exit 0))) (.seq (.block 1 (.seq (.ops [.z 7 (.move (.c (.u 0)))]) (.seq (.seq (.ops [.z 8 (.move (.c (.i 0)))]) (.block 2 (.loop (.seq (.seq (.ops [.m 31 8,.m 32 1,.z 33 (.lenSl (.t 32)),.z 34 (.bin .lss false 3 (.t 31) (.t 33))]) (.cond (.t 34) .skip (.exit 2))) (.seq (.block 3 (.seq (.draw [(.m 38 0,[]),(.m 39 6,[]),(.z 40 (.ixAddr 1 (.t 38) (.t 39)),[]),(.l 41 40,[]),(.m 42 1,[]),(.m 43 8,[]),(.z 44 (.ixAddr 1 (.t 42) (.t 43)),[]),(.l 45 44,[]),(.z 46 (.callV (.c (.fn (.func 157) [] [])) [.t 41,.t 45]),[]),(.m 37 46,[]),(.z 47 (.extract 0 (.t 37)),[]),(.z 48 (.extract 1 (.t 37)),[]),(.m 9 47,[]),(.m 10 48,[])]) (.seq (.ops [.m 50 5,.m 51 6,.m 52 8,.z 53 (.bin .add false 3 (.t 51) (.t 52)),.z 54 (.ixAddr 1 (.t 50) (.t 53)),.l 55 54,.m 56 10,.z 57 (.callV (.c (.fn (.func 155) [] [])) [.t 55,.t 56,(.c (.bool false))]),.m 49 57,.z 58 (.extract 0 (.t 49)),.z 59 (.extract 1 (.t 49)),.m 11 58,.m 12 59]) (.seq (.ops [.m 61 11,.m 62 7,.z 63 (.callV (.c (.fn (.func 155) [] [])) [.t 61,.t 62,(.c (.bool false))]),.m 60 63,.z 64 (.extract 0 (.t 60)),.z 65 (.extract 1 (.t 60)),.m 13 64,.m 14 65]) (.seq (.ops [.m 66 5,.m 67 6,.m 68 8,.z 69 (.bin .add false 3 (.t 67) (.t 68)),.m 70 13,.z 71 (.ixAddr 1 (.t 66) (.t 69)),⟨none,none,.store 1 (.t 71) (.t 70)⟩]) (.seq (.ops [.m 73 9,.m 74 12,.z 75 (.callV (.c (.fn (.func 155) [] [])) [.t 73,.c (.u 0),.t 74]),.m 72 75,.z 76 (.extract 0 (.t 72)),.z 77 (.extract 1 (.t 72)),.m 7 76]) (.ops [.m 79 7,.m 80 14,.z 81 (.callV (.c (.fn (.func 155) [] [])) [.t 79,.c (.u 0),.t 80]),.m 78 81,.z 82 (.extract 0 (.t 78)),.z 83 (.extract 1 (.t 78)),.m 7 82]))))))) (.ops [.m 35 8,.z 36 (.bin .add true 3 (.t 35) (.c (.i 1))),.m 8 36])))))) (.ops [.m 84 5,.m 85 6,.m 86 1,.z 87 (.lenSl (.t 86)),.z 88 (.bin .add false 3 (.t 85) (.t 87)),.m 89 7,.z 90 (.ixAddr 1 (.t 84) (.t 88)),⟨none,none,.store 1 (.t 90) (.t 89)⟩])))) (.ops [.m 29 6,.z 30 (.bin .add true 3 (.t 29) (.c (.i 1))),.m 6 30])))))) (.seq (.ops [.m 91 5,.z 92 (.callV (.c (.fn (.func 34) [] [])) [.t 91]),.m 4 92]) .ret)))))
theorem r_ref02_Mul:resFn Tryz.prog 134=some ⟨93,c_ref02_Mul.r,[.tmp 4]⟩:=by kernel_rfl
theorem k_ref02_Mul:c_ref02_Mul.ok=true:=by kernel_rfl
def c_nat_row_shift:LC:=(.seq (.ops [.z 4 (.move (.c .nilSl))]) (.seq (.seq (.ops [.m 7 0,.z 8 (.lenSl (.t 7)),.z 9 (.move (.c (.i 0)))]) (.block 0 (.loop (.seq (.ops [.z 10 (.bin .lss false 3 (.t 9) (.t 8))]) (.seq (.cond (.t 10) .skip (.exit 0)) (.seq (.block 1 (.seq (.ops [.m 11 9,.z 12 (.ixAddr 1 (.t 7) (.t 9)),.l 13 12,.m 5 11,.m 6 13]) (.seq (.ops [.m 14 0,.m 15 5,.m 16 6,.z 17 (.bin .shl true 28 (.t 16) (.c (.u 1))),.m 18 1,.z 19 (.bin .or false 28 (.t 17) (.t 18)),.z 20 (.ixAddr 1 (.t 14) (.t 15)),⟨none,none,.store 1 (.t 20) (.t 19)⟩]) (.ops [.m 21 6,.z 22 (.bin .shr true 28 (.t 21) (.c (.u 63))),.m 1 22])))) (.ops [.z 23 (.bin .add true 3 (.t 9) (.c (.i 1))),.m 9 23]))))))) (.seq (.seq (.ops [.m 24 1,.z 25 (.bin .neq true 28 (.t 24) (.c (.u 0)))]) (.cond (.t 25) (.ops [.m 26 0,.m 27 1,.z 28 (.buildSl 1 1 [(.u 0)] [(0,1,.t 27)]),.z 29 (.appG 1 (.t 26) (.t 28)),.m 0 29]) .skip)) (.seq (.ops [.m 30 0,.m 4 30]) .ret))))
theorem r_nat_row_shift:resFn Tryz.prog 165=some ⟨31,c_nat_row_shift.r,[.tmp 4]⟩:=by kernel_rfl
theorem k_nat_row_shift:c_nat_row_shift.ok=true:=by kernel_rfl
theorem ref02_Mul_ok (a0 b0:List UInt64) (ha0:a0.length≤500000) (hb0:b0.length≤500000):FnS Tryz.prog 134 [LU a0,LU b0] (.dy 0 0) [RU (toL (val a0 * val b0))]:=by
 refine FnS.row (call_body r_ref02_Mul k_ref02_Mul (by simp) ?_)
 simp[c_ref02_Mul]
 refine CallL_F (ref02_Trim_ok a0 (by omega)) (by simp) ?_
 simp[RU]
 refine CallL_F (ref02_Trim_ok b0 (by omega)) (by simp) ?_
 have hla:=toL_length_val a0
 have hlb:=toL_length_val b0
 obtain⟨a,ea⟩:∃ a,toL (val a0)=a:=⟨_,rfl⟩
 obtain⟨b,eb⟩:∃ b,toL (val b0)=b:=⟨_,rfl⟩
 have va:val a0=val a:=by rw[←ea,val_toL]
 have vb:val b0=val b:=by rw[←eb,val_toL]
 rw[ea] at hla
 rw[eb] at hlb
 rw[ea,eb,va,vb]
 have ha:a.length≤500000:=by omega
 have hb:b.length≤500000:=by omega
 simp[RU]
 refine⟨by omega,by omega,by omega,?_⟩
 have hto:((a.length:Int)+b.length).toNat=a.length+b.length:=by omega
 simp[hto,repU]
 refine loop_nx (fun ρ D G N=>∃ (i:Nat) (out:List UInt64) (st:Nat),D=[]∧N+i=a.length∧G=[.dyn (out.map .u) (a.length+b.length) 1 0 st]∧lk ρ 0=LU a∧lk ρ 1=LU b∧lk ρ 5=.dy 0 0∧lk ρ 6=.i i∧MulInv a b i 0 out 0) (N:=a.length) ⟨0,List.replicate (a.length+b.length) 0,0,by simp[mul_first]⟩ ?_
 rintro N ρ D G ⟨i,out,st,rfl,hN,rfl,h0,h1,h5,h6,hM⟩ Nx hNx
 have hol:=hM.1
 by_cases hz:N=0
 ·have hi:i=a.length:=by omega
  subst hi
  simp[h6,h0,h5]
  refine CallL_row (ref02_Trim_ok out (by omega)) (bors1 (RowAt.bor (l:=out) (.inr ⟨0,0,st,rfl,by simp[hol]⟩))) ?_
  rw[mul_last hM]
  simp
  exact .inr ⟨1,0,0,rfl,by simp[RU]⟩
 have hi:i < a.length:=by omega
 simp[h6,h0,hi]
 refine loop_nx (fun ρ D G M=>∃ (k:Nat) (out:List UInt64) (more:UInt64) (st:Nat),D=[]∧M+k=b.length∧G=[.dyn (out.map .u) (a.length+b.length) 1 0 st]∧lk ρ 0=LU a∧lk ρ 1=LU b∧lk ρ 5=.dy 0 0∧lk ρ 6=.i i∧lk ρ 7=.u more∧lk ρ 8=.i k∧MulInv a b i k out more) (N:=b.length) ⟨0,out,0,st,by simp[h0,h1,h5,h6,hM]⟩ ?_
 rintro M ρ D G ⟨k,out,more,st,rfl,hM2,rfl,h0,h1,h5,h6,h7,h8,hM⟩ Mx hMx
 have hol:=hM.1
 by_cases hz2:M=0
 ·have hk:k=b.length:=by omega
  subst hk
  have hlt:i+b.length < out.length:=by omega
  have hto2:((i:Int)+b.length).toNat=i+b.length:=by omega
  have hlay:=layU out (i+b.length) more hlt
  simp[h8,h5,h6,h1,h7,hto2,hlay]
  refine⟨by omega,by omega,by omega,by omega,by omega,?_⟩
  exact hNx _ _ _ ⟨N - 1,by omega,i+1,out.set (i+b.length) more,st+1,rfl,by omega,by simp,by simp[h0],by simp[h1],by simp[h5],by simp,mul_outer hi hM⟩
 have hk:k < b.length:=by omega
 have hlt:i+k < out.length:=by omega
 have hto2:((i:Int)+k).toNat=i+k:=by omega
 have hstep:=mul_inner hi hk hM
 have hlay:=layU out (i+k) (mulC (out.getD (i+k) 0) (a.getD i 0) (b.getD k 0) more).1 hlt
 have hmc1:(mulC (out.getD (i+k) 0) (a.getD i 0) (b.getD k 0) more).1=(addC (addC (out.getD (i+k) 0) (a.getD i 0 * b.getD k 0) false).1 more false).1:=rfl
 have hmc2:(mulC (out.getD (i+k) 0) (a.getD i 0) (b.getD k 0) more).2=(addC (addC (mulHi (a.getD i 0) (b.getD k 0)) 0 (addC (out.getD (i+k) 0) (a.getD i 0 * b.getD k 0) false).2).1 0 (addC (addC (out.getD (i+k) 0) (a.getD i 0 * b.getD k 0) false).1 more false).2).1:=rfl
 have hai:a[i]=a.getD i 0:=by simp[hi]
 have hbk:b[k]=b.getD k 0:=by simp[hk]
 have hok:out[i+k]=out.getD (i+k) 0:=by simp[hlt]
 generalize a.getD i 0=x at *
 generalize b.getD k 0=y at *
 generalize out.getD (i+k) 0=o at *
 simp[h8,h0,h1,hk,h6,hi]
 rw[hai,hbk]
 refine CallL_F (ref01_Mul_ok x y) (by simp) ?_
 simp[h5,h6,h8,hto2,hlt]
 rw[hok]
 refine⟨by omega,by omega,by omega,?_⟩
 refine CallL_F (ref01_Add_ok o (x * y) false) (by simp) ?_
 generalize addC o (x * y) false=r1 at *
 simp[h7]
 refine CallL_F (ref01_Add_ok r1.1 more false) (by simp) ?_
 generalize addC r1.1 more false=r2 at *
 rw[hmc1] at hlay
 simp[h5,h6,h8,hto2,hlay]
 refine⟨by omega,by omega,by omega,by omega,?_⟩
 refine CallL_F (ref01_Add_ok (mulHi x y) 0 r1.2) (by simp) ?_
 generalize addC (mulHi x y) 0 r1.2=r3 at *
 simp
 refine CallL_F (ref01_Add_ok r3.1 0 r2.2) (by simp) ?_
 generalize addC r3.1 0 r2.2=r4 at *
 simp[h8]
 refine⟨by omega,?_⟩
 rw[hmc1,hmc2] at hstep
 exact hMx _ _ _ ⟨M - 1,by omega,k+1,out.set (i+k) r2.1,r4.1,st+1,rfl,by omega,by simp,by simp[h0],by simp[h1],by simp[h5],by simp[h6],by simp,by simp,hstep⟩
theorem nat_row_shift_ok {G:LHeap} {v:LV} {l:List UInt64} {b:UInt64} {K:LV→LHeap→Prop} (h:RowAt G v l) (hb:b.toNat≤1) (hl:l.length≤1000000)
  (k:∀ v' G' l',RowAt G' v' l'→val l'=2 * val l+b.toNat→l'.length≤l.length+1→(∀ (q:Nat) (ob:LObj),G[q]?=some ob→(∀ k,v≠.dy q k)→G'[q]?=some ob∧∀ k,v'≠.dy q k)→K v' G'):CallL Tryz.prog (.fn 165) [v,.u b] G K:=by
 refine call_body r_nat_row_shift k_nat_row_shift (by simp) ?_
 rw[c_nat_row_shift,wp_assoc]
 refine wp_cut (fun ρ D G'=>D=[]∧lk ρ 0=v∧∃ l' b',lk ρ 1=.u b'∧RowAt G' v l'∧ShInv l b l.length l' b'∧∀ (q:Nat) (ob:LObj),G[q]?=some ob→(∀ k,v≠.dy q k)→G'[q]?=some ob) (fun Nx hNx=>?_) (fun ρ D G' hΦ=>?_)
 ·rcases h with ⟨rfl,rfl⟩ | ⟨p,kk,st,rfl,hg⟩
  ·simp
   refine loop_nx (fun ρ D G' N=>D=[]∧G'=G∧lk ρ 0=.nilSl∧lk ρ 1=.u b∧lk ρ 8=.i 0∧lk ρ 9=.i 0) (N:=0) (by simp) ?_
   rintro N ρ D G' ⟨rfl,rfl,h0,h1,h8,h9⟩ Lx hLx
   simp[h8,h9]
   exact hNx _ _ _ ⟨rfl,by simp[h0],[],b,by simp[h1],.inl ⟨rfl,rfl⟩,sh_start hb,fun q ob hq _=>hq⟩
  ·simp[hg]
   refine loop_nx (fun ρ D G' N=>∃ (i:Nat) (l':List UInt64) (b':UInt64) (st':Nat),D=[]∧N+i=l.length∧lk ρ 0=.dy p kk∧lk ρ 7=.dy p kk∧lk ρ 1=.u b'∧lk ρ 8=.i l.length∧lk ρ 9=.i i∧G'[p]?=some (.dyn (l'.map .u) l.length 1 kk st')∧ShInv l b i l' b'∧∀ (q:Nat) (ob:LObj),G[q]?=some ob→(∀ k,LV.dy p kk≠.dy q k)→G'[q]?=some ob) (N:=l.length) ⟨0,l,b,st,by simp[hg,sh_start hb]; exact fun q ob h _=>h⟩ ?_
   rintro N ρ D G' ⟨i,l',b',st',rfl,hN,h0,h7,h1,h8,h9,hg',hS,hfr⟩ Lx hLx
   have hll:=hS.1
   by_cases hz:N=0
   ·have hi:i=l.length:=by omega
    subst hi
    simp[h8,h9]
    exact hNx _ _ _ ⟨rfl,by simp[h0],l',b',by simp[h1],.inr ⟨p,kk,st',rfl,by rw[hll]; exact hg'⟩,hS,hfr⟩
   ·have hi:i < l.length:=by omega
    have hx : l'[i]'(by omega) = l.getD i 0 := by
     have:=hS.2.2.1 i (Nat.le_refl _)
     rw[←this]; simp[show i < l'.length by omega]
    have hlay:=layU l' i (orU (shlU (l.getD i 0) 1) b') (by omega)
    have hst:=sh_step hi hS
    generalize l.getD i 0=x at *
    simp[h8,h9,hi,h7,hg',hll,h0,h1]
    rw[hx,hlay]
    refine⟨by omega,by omega,hLx _ _ _ ⟨N - 1,by omega,i+1,_,_,st'+1,rfl,by omega,by simp[h0],by simp[h7],by simp,by simp[h8],by simp,gset hg' _,hst,fun q ob hq hne=>?_⟩⟩
    rw[gset_ne (fun e=>hne kk (by rw[e]))]
    exact hfr q ob hq hne
 ·obtain⟨rfl,h0,l',b',h1,hr,hS,hfr⟩:=hΦ
  obtain⟨e1,e2⟩:=sh_end hS
  have hll:=hS.1
  by_cases hz:b'=0
  ·simp[h0,h1,hz]
   refine k v G' l' hr (e1 hz) (by omega) (fun q ob hq hne=>⟨hfr q ob hq hne,hne⟩)
  ·simp[h0,h1,hz]
   refine appL_row (hr.app _) (xs:=[b']) rfl (by simp) (by omega) (fun v' G2 hr' hfr'=>?_)
   simp
   exact k v' G2 _ hr' e2 (by simp; omega) (fun q ob hq hne=>hfr' q ob (gapp (hfr q ob hq hne) _) hne)
end Go.Proofs.YtnbnhnjffiagmaaGreat
