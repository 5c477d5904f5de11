/- Naturals of the program: products, bits. -/
import Derived.Test.YtodjkjimaheggaaGreatFnH
namespace Go.Proofs.YtodjkjimaheggaaGreat
open Go.Sv
set_option linter.unusedSimpArgs false
def z74:LC:=(.seq (.ops [.z 4 (.move (.c (.i 0)))]) (.seq (.seq (.ops [.m 8 0,.z 9 (.lenSl (.t 8)),.m 10 1,.z 11 (.lenSl (.t 10)),.z 12 (.maxi true (.t 9) (.t 11)),.z 13 (.bin .sub true 3 (.t 12) (.c (.i 1))),.m 5 13]) (.block 0 (.loop (.seq (.seq (.ops [.m 14 5,.z 15 (.bin .geq true 3 (.t 14) (.c (.i 0)))]) (.cond (.t 15) .skip (.exit 0))) (.seq (.block 1 (.seq (.ops [.m 18 0,.m 19 5,.z 20 (.callV (.c (.fn (.func 130) [] [])) [.t 18,.t 19]),.m 21 1,.m 22 5,.z 23 (.callV (.c (.fn (.func 130) [] [])) [.t 21,.t 22]),.m 6 20,.m 7 23]) (.seq (.seq (.ops [.m 24 6,.m 25 7,.z 26 (.bin .lss false 23 (.t 24) (.t 25))]) (.cond (.t 26) (.seq (.ops [.z 4 (.move (.c (.i (-1))))]) .ret) .skip)) (.seq (.ops [.m 27 6,.m 28 7,.z 29 (.bin .gtr false 23 (.t 27) (.t 28))]) (.cond (.t 29) (.seq (.ops [.z 4 (.move (.c (.i 1)))]) .ret) .skip))))) (.ops [.m 16 5,.z 17 (.bin .sub true 3 (.t 16) (.c (.i 1))),.m 5 17])))))) (.seq (.ops [.z 4 (.move (.c (.i 0)))]) .ret)))
theorem r_ref02_Compare:z0f Tryz.prog 66=some ⟨30,z74.r,[.tmp 4]⟩:=by kernel_rfl
theorem k_ref02_Compare:z74.ok=true:=by kernel_rfl
def zca:LC:=(.seq (.ops [.z 4 (.move (.c .nilSl)),.z 5 (.move (.c (.i 0)))]) (.seq (.seq (.ops [.m 10 0,.m 11 1,.z 12 (.callV (.c (.fn (.func 66) [] [])) [.t 10,.t 11]),.z 13 (.bin .lss true 3 (.t 12) (.c (.i 0)))]) (.cond (.t 13) (.seq (.ops [.z 4 (.move (.c .nilSl)),.z 5 (.move (.c (.i 2)))]) .ret) .skip)) (.seq (.ops [.z 6 (.move (.c .nilSl))]) (.seq (.ops [.z 7 (.move (.c (.bool false)))]) (.seq (.seq (.ops [.z 8 (.move (.c (.i 0)))]) (.block 0 (.loop (.seq (.seq (.ops [.m 14 8,.m 15 0,.z 16 (.lenSl (.t 15)),.m 17 1,.z 18 (.lenSl (.t 17)),.z 19 (.maxi true (.t 16) (.t 18)),.z 20 (.bin .lss false 3 (.t 14) (.t 19))]) (.cond (.t 20) .skip (.exit 0))) (.seq (.block 1 (.seq (.ops [.z 9 (.move (.c (.u 0)))]) (.seq (.ops [.m 24 0,.m 25 8,.z 26 (.callV (.c (.fn (.func 130) [] [])) [.t 24,.t 25]),.m 27 1,.m 28 8,.z 29 (.callV (.c (.fn (.func 130) [] [])) [.t 27,.t 28]),.m 30 7,.z 31 (.callV (.c (.fn (.func 147) [] [])) [.t 26,.t 29,.t 30]),.m 23 31,.z 32 (.extract 0 (.t 23)),.z 33 (.extract 1 (.t 23)),.m 9 32,.m 7 33]) (.ops [.m 34 6,.m 35 9,.z 36 (.buildSl 1 1 [(.u 0)] [(0,1,.t 35)]),.z 37 (.appG 1 (.t 34) (.t 36)),.m 6 37])))) (.ops [.m 21 8,.z 22 (.bin .add true 3 (.t 21) (.c (.i 1))),.m 8 22])))))) (.seq (.ops [.m 38 6,.z 39 (.callV (.c (.fn (.func 84) [] [])) [.t 38]),.m 4 39,.z 5 (.move (.c (.i 0)))]) .ret))))))
theorem r_ref02_Sub:z0f Tryz.prog 83=some ⟨40,zca.r,[.tmp 4,.tmp 5]⟩:=by kernel_rfl
theorem k_ref02_Sub:zca.ok=true:=by kernel_rfl
def za3:LC:=(.seq (.ops [.z 2 (.move (.c (.i 0)))]) (.seq (.ops [.m 3 0,.z 4 (.callV (.c (.fn (.func 84) [] [])) [.t 3]),.m 0 4]) (.seq (.seq (.ops [.m 5 0,.z 6 (.lenSl (.t 5)),.z 7 (.bin .eql true 3 (.t 6) (.c (.i 0)))]) (.cond (.t 7) (.seq (.ops [.z 2 (.move (.c (.i 0)))]) .ret) .skip)) (.seq (.ops [.m 8 0,.z 9 (.lenSl (.t 8)),.z 10 (.bin .sub true 3 (.t 9) (.c (.i 1))),.z 11 (.bin .mul true 3 (.c (.i 64)) (.t 10)),.m 12 0,.m 13 0,.z 14 (.lenSl (.t 13)),.z 15 (.bin .sub true 3 (.t 14) (.c (.i 1))),.z 16 (.ixAddr 1 (.t 12) (.t 15)),.l 17 16,.z 18 (.callV (.c (.fn (.func 146) [] [])) [.t 17]),.z 19 (.bin .add false 3 (.t 11) (.t 18)),.m 2 19]) .ret))))
theorem r_ref02_Bits:z0f Tryz.prog 80=some ⟨20,za3.r,[.tmp 2]⟩:=by kernel_rfl
theorem k_ref02_Bits:za3.ok=true:=by kernel_rfl
def z8v:LC:=(.seq (.ops [.z 4 (.move (.c (.bool false)))]) (.seq (.ops [.m 5 1,.z 6 (.bin .geq true 3 (.t 5) (.c (.i 0))),.m 7 6,⟨some 8,(some (7,true)),.move (.t 0)⟩,⟨some 9,(some (7,true)),.move (.t 1)⟩,⟨some 10,(some (7,true)),.bin .quo true 3 (.t 9) (.c (.i 64))⟩,⟨some 11,(some (7,true)),.callV (.c (.fn (.func 130) [] [])) [.t 8,.t 10]⟩,⟨some 12,(some (7,true)),.move (.t 1)⟩,⟨some 13,(some (7,true)),.bin .rem true 3 (.t 12) (.c (.i 64))⟩,⟨some 14,(some (7,true)),.cvInt .u64 (.t 13)⟩,⟨some 15,(some (7,true)),.bin .shr false 23 (.t 11) (.t 14)⟩,⟨some 16,(some (7,true)),.bin .and true 23 (.t 15) (.c (.u 1))⟩,⟨some 17,(some (7,true)),.bin .eql true 23 (.t 16) (.c (.u 1))⟩,.z 18 (.pick (.t 7) (.t 17) (.c (.bool false))),.m 4 18]) .ret))
theorem r_ref02_Bit:z0f Tryz.prog 82=some ⟨19,z8v.r,[.tmp 4]⟩:=by kernel_rfl
theorem k_ref02_Bit:z8v.ok=true:=by kernel_rfl
theorem zkl (a:List UInt64) (ha:a.length≤1000000):FnS Tryz.prog 80 [LU a] (.i (blen (val a))) []:=by
 refine FnS.val rfl (z01 r_ref02_Bits k_ref02_Bits (by simp) ?_)
 simp[za3]
 refine z02 (z3r a (by omega)) (by simp) ?_
 have hl:=zb9 a
 cases hn:(toL (val a)).length with
 | zero =>
  have h0:val a=0:=zr3.1 (List.eq_nil_of_length_eq_zero hn)
  simp[RU,h0,toL_zero,blen_zero]
 | succ n =>
  have hb:=blen_val (Trm_toL (val a)) hn
  rw[z3g] at hb
  have hne:¬ ((n:Int)+1=0):=by omega
  have hnn:((n:Int)+1 - 1).toNat=n:=by omega
  have hne2:toL (val a)≠[]:=fun e=>by rw[e] at hn; simp at hn
  simp[RU,hn,hne,hnn,hne2]
  refine⟨by omega,by omega,by omega,by omega,?_⟩
  refine z02 (zjz ((toL (val a)).getD n 0)) (by simp[hn]) ?_
  have hx:blen ((toL (val a)).getD n 0).toNat≤64:=zot (UInt64.toNat_lt _)
  rw[hb]
  generalize blen ((toL (val a)).getD n 0).toNat=x at *
  simp
  omega
theorem zle (a:List UInt64) (i:Int) (hi:i < 9223372036854775808):FnS Tryz.prog 82 [LU a,.i i] (.bool (decide (0≤i) && (val a).testBit i.toNat)) []:=by
 refine FnS.val rfl (z01 r_ref02_Bit k_ref02_Bit (by simp) ?_)
 by_cases h0:0≤i
 ·obtain⟨n,rfl⟩:=Int.eq_ofNat_of_zero_le h0
  have hb:=bit_at a n
  have e1:(n:Int) / 64=(n / 64:Nat):=by omega
  have e2:(n:Int).tmod 64=(n % 64:Nat):=by rw[Int.tmod_eq_emod_of_nonneg (by omega)]; omega
  have hu:=bit_u' (a.getD (n / 64) 0) (n % 64)
  rw[hb] at hu
  have hiU:(iU ((n % 64:Nat):Int)).toNat=n % 64:=zba (by omega)
  simp[z8v]
  refine⟨by omega,?_⟩
  rw[e1]
  refine z02 (z2z a (n / 64:Nat)) (by simp) ?_
  simp
  rw[e1,e2,hiU]
  simp at hu
  simp only[Int.toNat_natCast,Int.natCast_nonneg,if_true]
  rw[hu]
  cases (val a).testBit n <;> simp
 ·simp[z8v,h0]
theorem z45 (a b:List UInt64) (ha:a.length≤1000000) (hb:b.length≤1000000):FnS Tryz.prog 66 [LU a,LU b] (.i (cmpN (val a) (val b))) []:=by
 refine FnS.val rfl (z01 r_ref02_Compare k_ref02_Compare (by simp) ?_)
 simp[z74]
 refine⟨by omega,?_⟩
 refine z0m (fun ρ D G N=>D=[]∧N≤1000000∧lk ρ 0=LU a∧lk ρ 1=LU b∧lk ρ 5=.i ((N:Int) - 1)∧cmpN (val a) (val b)=cmpN (val (a.take N)) (val (b.take N))) (N:=max a.length b.length) ⟨by simp,by omega,by simp,by simp,by simp; omega,by rw[z2x (by omega),z2x (by omega)]⟩ ?_
 rintro N ρ D G ⟨rfl,hN,h0,h1,h5,hc⟩ Nx hNx
 cases N with
 | zero =>
  simp[h5]
  rw[hc]; simp[val,cmpN]
 | succ N =>
  have e:((N+1:Nat):Int) - 1=N:=by omega
  rw[e] at h5
  simp[h0,h1,h5]
  refine z02 (z2z a N) (by simp) ?_
  simp[h1,h5]
  refine z02 (z2z b N) (by simp) ?_
  rw[cmp_next] at hc
  simp at hc
  simp
  rw[hc]
  generalize a[N]?.getD 0=x at *
  generalize b[N]?.getD 0=y at *
  refine⟨fun l=>by rw[if_pos l],fun l=>⟨fun l2=>by rw[if_neg (UInt64.not_lt.2 l),if_pos l2],fun l2=>?_⟩⟩
  rw[if_neg (UInt64.not_lt.2 l),if_neg (UInt64.not_lt.2 l2)] at hc
  simp[h5]
  exact⟨by omega,hNx _ _ _ ⟨N,by omega,rfl,by omega,by simp[h0],by simp[h1],by simp,hc⟩⟩
theorem ze6 (a b:List UInt64) (ha:a.length≤1000000) (hb:b.length≤1000000):FnS Tryz.prog 83 [LU a,LU b] (.tup [.dy 0 0,.i (if val a < val b then 2 else 0)]) [RU (if val a < val b then [] else toL (val a - val b))]:=by
 refine FnS.rowE (z01 r_ref02_Sub k_ref02_Sub (by simp) ?_)
 simp[zca]
 refine z02 (z45 a b ha hb) (by simp) ?_
 by_cases hlt:val a < val b
 ·simp[zog,hlt,z49]
 simp[zog,zgw,hlt]
 refine z0m (fun ρ D G N=>∃ (i:Nat) (c:Bool) (out:List UInt64),D=[]∧N+i=max a.length b.length∧lk ρ 0=LU a∧lk ρ 1=LU b∧lk ρ 8=.i i∧lk ρ 7=.bool c∧z49 G (lk ρ 6) out∧out.length=i ∧
  val out+val (b.take i)=val (a.take i)+2 ^ (64 * i) * c.toNat) (N:=max a.length b.length) ⟨0,false,[],by simp[z49,val]⟩ ?_
 rintro N ρ D G ⟨i,c,out,rfl,hN,h0,h1,h8,h7,h6,hlen,hv⟩ Nx hNx
 by_cases hz:N=0
 ·subst hz
  have hge:¬ (i:Int) < max (a.length:Int) (b.length:Int):=by omega
  simp[h0,h1,h8,hge]
  obtain⟨e1,e2⟩:=sub_end (m:=i) (by omega) (by omega) hlen hv
  refine zag (z3r out (by omega)) (zv6 h6.bor) ?_
  have hc:c=false:=by cases c with
   | true=>exact absurd (e1.1 rfl) hlt
   | false=>rfl
  rw[e2 hc]
  simpa using z49.new
 ·have hlt2:(i:Int) < max (a.length:Int) (b.length:Int):=by omega
  simp[h0,h1,h8,hlt2]
  refine z02 (z2z a i) (by simp) ?_
  simp[h1,h8]
  refine z02 (z2z b i) (by simp) ?_
  simp[h7]
  refine z02 (zec (a.getD i 0) (b.getD i 0) c) (by simp) ?_
  simp[h6]
  refine zqq (h6.app _) (xs:=[(subC (a.getD i 0) (b.getD i 0) c).1]) rfl (by simp) (by omega) (fun v' G' hr _=>?_)
  simp[h8]
  refine⟨by omega,hNx _ _ _ ⟨N - 1,by omega,i+1,(subC (a.getD i 0) (b.getD i 0) c).2,_,rfl,by omega,by simp[h0],by simp[h1],by simp,by simp,by simpa using hr,by simp[hlen],sub_step hlen hv⟩⟩
end Go.Proofs.YtodjkjimaheggaaGreat
