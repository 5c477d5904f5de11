/- Numbers modulo another one: inverses. -/
import Derived.Test.YtodjkjimaheggaaGreatFnO
namespace Go.Proofs.YtodjkjimaheggaaGreat
open Go.Sv
set_option linter.unusedSimpArgs false
def c_ref03_Inverse:LC:=(.seq (.ops [.z 4 (.move (.c .nilSl)),.z 5 (.move (.c (.i 0)))]) (.seq (.ops [.m 20 0,.m 21 1,.z 22 (.callV (.c (.fn (.func 93) [] [])) [.t 20,.t 21]),.m 19 22,.z 23 (.extract 0 (.t 19)),.z 24 (.extract 1 (.t 19)),.m 6 23,.m 7 24]) (.seq (.seq (.ops [.m 25 7,.z 26 (.bin .neq true 35 (.t 25) (.c (.i 0)))]) (.cond (.t 26) (.seq (.ops [.m 27 7,.z 4 (.move (.c .nilSl)),.m 5 27]) .ret) .skip)) (.seq (.seq (.ops [.m 28 6,.m 29 1,.z 30 (.callV (.c (.fn (.func 151) [] [])) [.t 28,.t 29]),.z 31 (.buildSl 1 1 [(.u 0)] [(0,1,.c (.u 1))]),.z 32 (.callV (.c (.fn (.func 150) [] [])) [.t 30,.t 31]),.z 33 (.un .not (.t 32))]) (.cond (.t 33) (.seq (.ops [.z 4 (.move (.c .nilSl)),.z 5 (.move (.c (.i 5)))]) .ret) .skip)) (.seq (.ops [.m 34 1,.z 35 (.callV (.c (.fn (.func 84) [] [])) [.t 34]),.m 36 6,.m 8 35,.m 9 36]) (.seq (.ops [.z 37 (.buildSl 1 0 [] []),.z 38 (.buildSl 1 1 [(.u 0)] [(0,1,.c (.u 1))]),.m 10 37,.m 11 38]) (.seq (.block 0 (.loop (.seq (.seq (.ops [.m 39 9,.z 40 (.lenSl (.t 39)),.z 41 (.bin .gtr true 3 (.t 40) (.c (.i 0)))]) (.cond (.t 41) .skip (.exit 0))) (.block 1 (.seq (.ops [.m 43 8,.m 44 9,.z 45 (.callV (.c (.fn (.func 28) [] [])) [.t 43,.t 44]),.m 42 45,.z 46 (.extract 0 (.t 42)),.z 47 (.extract 1 (.t 42)),.z 48 (.extract 2 (.t 42)),.m 12 46,.m 13 47,.m 14 48]) (.seq (.ops [.m 50 12,.m 51 11,.m 52 1,.z 53 (.callV (.c (.fn (.func 54) [] [])) [.t 50,.t 51,.t 52]),.m 49 53,.z 54 (.extract 0 (.t 49)),.z 55 (.extract 1 (.t 49)),.m 15 54,.m 16 55]) (.seq (.ops [.m 57 10,.m 58 15,.m 59 1,.z 60 (.callV (.c (.fn (.func 152) [] [])) [.t 57,.t 58,.t 59]),.m 56 60,.z 61 (.extract 0 (.t 56)),.z 62 (.extract 1 (.t 56)),.m 17 61,.m 18 62]) (.seq (.ops [.m 63 9,.m 64 13,.m 8 63,.m 9 64]) (.ops [.m 65 11,.m 66 17,.m 10 65,.m 11 66]))))))))) (.seq (.ops [.m 67 10,.m 68 1,.z 69 (.callV (.c (.fn (.func 93) [] [])) [.t 67,.t 68]),.z 70 (.extract 0 (.t 69)),.z 71 (.extract 1 (.t 69)),.m 4 70,.m 5 71]) .ret))))))))
theorem r_ref03_Inverse:resFn Tryz.prog 90=some ⟨72,c_ref03_Inverse.r,[.tmp 4,.tmp 5]⟩:=by kernel_rfl
theorem k_ref03_Inverse:c_ref03_Inverse.ok=true:=by kernel_rfl
def c_ref03_Reduce:LC:=(.seq (.ops [.z 6 (.move (.c .nilSl)),.z 7 (.move (.c (.i 0)))]) (.seq (.ops [.m 13 2,.m 14 1,.z 15 (.callV (.c (.fn (.func 33) [] [])) [.t 13,.t 14]),.m 12 15,.z 16 (.extract 0 (.t 12)),.z 17 (.extract 1 (.t 12)),.m 8 16,.m 9 17]) (.seq (.seq (.ops [.m 18 9,.z 19 (.bin .neq true 35 (.t 18) (.c (.i 0))),.m 20 19,⟨some 21,(some (20,false)),.move (.t 1)⟩,⟨some 22,(some (20,false)),.callV (.c (.fn (.func 89) [] [])) [.t 21]⟩,⟨some 23,(some (20,false)),.un .not (.t 22)⟩,.z 24 (.pick (.t 20) (.c (.bool true)) (.t 23))]) (.cond (.t 24) (.seq (.ops [.z 6 (.move (.c .nilSl)),.z 7 (.move (.c (.i 2)))]) .ret) .skip)) (.seq (.ops [.m 26 8,.m 27 1,.z 28 (.callV (.c (.fn (.func 90) [] [])) [.t 26,.t 27]),.m 25 28,.z 29 (.extract 0 (.t 25)),.z 30 (.extract 1 (.t 25)),.m 10 29,.m 11 30]) (.seq (.ops [.m 31 0,.m 32 10,.m 33 1,.z 34 (.callV (.c (.fn (.func 54) [] [])) [.t 31,.t 32,.t 33]),.z 35 (.extract 0 (.t 34)),.z 36 (.extract 1 (.t 34)),.m 6 35,.m 7 36]) .ret)))))
theorem r_ref03_Reduce:resFn Tryz.prog 30=some ⟨37,c_ref03_Reduce.r,[.tmp 6,.tmp 7]⟩:=by kernel_rfl
theorem k_ref03_Reduce:c_ref03_Reduce.ok=true:=by kernel_rfl
def RV (G:LHeap) (v:LV) (l:List UInt64):Prop:=v=LU l∨(v=.nilSl∧l=[])∨∃ q st,v=.dy q 0∧G[q]?=some (.dyn (l.map .u) l.length 1 0 st)
theorem RV.bor {G:LHeap} {v:LV} {l:List UInt64} (h:RV G v l):bor G v (LU l):=by
 rcases h with rfl | ⟨rfl,rfl⟩ | ⟨q,st,rfl,hg⟩
 ·exact⟨rfl,by simp⟩
 ·exact .inr ⟨1,by simp⟩
 ·exact⟨_,_,_,st,rfl,hg,by simp⟩
theorem bors3 {G:LHeap} {v d v' d' v'' d'':LV} (h:Go.Sv.bor G v d) (h':Go.Sv.bor G v' d') (h'':Go.Sv.bor G v'' d''):bors G [v,v',v''] [d,d',d'']:=⟨d,_,rfl,h,bors2 h' h''⟩
theorem ref03_Inverse_ok (a n:List UInt64) (ha:a.length≤4000) (hn:n.length≤4000):FnV Tryz.prog 90 [LU a,LU n] (.tup [LU (ivR (val a) (val n)),.i (ivE (val a) (val n))]):=by
 refine FnV.mk (by simp[LV.dat]) (call_body r_ref03_Inverse k_ref03_Inverse (by simp) ?_)
 simp[c_ref03_Inverse]
 refine CallL_F (ref03_rest_ok a n (by omega) (by omega)) (by simp) ?_
 by_cases h:val n=0
 ·simp[RU,h,mE,mR,ivE,ivR]
 have hx:=mR_len a n h
 rw[←ivR_mod,←ivE_mod]
 generalize val a % val n=x at *
 simp[RU,mE_p h,mR_p h]
 refine CallL_V (ref03_Gcd_ok (toL x) n (by omega) (by omega)) (by simp) ?_
 have hgl:(toL (Nat.gcd x (val n))).length≤n.length:=toL_len_le (Nat.gcd_le_right _ (by omega))
 rw[val_toL]
 simp
 refine CallL_F (ref02_Same_ok (toL (Nat.gcd x (val n))) [1] (by omega) (by simp)) (bors2 (by simp) (RowAt.bor (l:=[1]) (.inr ⟨_,0,0,rfl,by simp⟩))) ?_
 rw[val_toL,val_one]
 have o1:(1:UInt64).toNat=1:=rfl
 rw[o1]
 by_cases hg1:Nat.gcd x (val n)=1
 rotate_left
 ·simp[hg1,ivE,ivR,h]
 rw[decide_eq_true hg1]
 simp
 refine CallL_F (ref02_Trim_ok n (by omega)) (by simp) ?_
 have hnl:=toL_length_val n
 simp[RU]
 refine loop_nx (fun ρ D G N=>∃ (u:Nat) (S T:List UInt64) (vs vt:LV),D=[]∧lk ρ 1=LU n∧lk ρ 8=LU (toL u)∧lk ρ 9=LU (toL N)∧lk ρ 10=vs∧lk ρ 11=vt∧RV G vs S∧RV G vt T∧(toL u).length≤n.length∧(toL N).length≤n.length∧S.length≤4000∧T.length≤4000∧EU (val n) x u N (val S) (val T)) (N:=x)
  ⟨val n,[],[1],.dy 1 0,.dy 2 0,by simp,by simp,by simp,by simp,by simp,by simp,.inr (.inr ⟨1,0,rfl,by simp⟩),.inr (.inr ⟨2,0,rfl,by simp⟩),hnl,hx,by simp,by simp,by simpa [val] using EU_start (val n) x⟩ ?_
 rintro N ρ D G ⟨u,S,T,vs,vt,rfl,e1,e8,e9,e10,e11,hs,ht,l1,l2,l3,l4,hE⟩ Nx hNx
 by_cases hz:N=0
 ·subst hz
  have hu:=EU_end hE
  rw[hg1] at hu
  subst hu
  have hi:=EU_inv h hE
  rw[toL_zero] at e9
  simp[e9,e1,e10]
  refine CallL_F (ref03_rest_ok S n (by omega) (by omega)) (bors2 hs.bor (by simp)) ?_
  simp[RU,mE_p h,mR_p h,ivE,ivR,h,hg1,hi]
 ·have hp:toL N≠[]:=fun e=>hz (toL_eq_nil.1 e)
  have hp2:0 < (toL N).length:=List.length_pos_iff.2 hp
  have q1:(toL (u / N)).length≤(toL u).length:=toL_len_le (by rw[val_toL]; exact Nat.div_le_self _ _)
  have q2:=toL_len_lt (b:=n) (Nat.mod_lt (u / N * val T) (show 0 < val n by omega))
  simp[e8,e9,hp,hp2]
  refine CallL_F (ref02_Div_ok (toL u) (toL N) (by omega) (by omega)) (by simp) ?_
  simp[RU,val_toL,hz,e11,e1]
  refine CallL_F (ref03_Mul_ok (toL (u / N)) T n (by omega) (by omega) (by omega)) (bors3 (by simp) ht.bor (by simp)) ?_
  simp[RU,val_toL,mE_p h,mR_p h,e10,e1]
  refine CallL_F (ref03_Sub_ok S (toL (u / N * val T % val n)) n (by omega) (by omega) (by omega)) (bors3 hs.bor (by simp) (by simp)) ?_
  simp[RU,val_toL,mE_p h,mR_p h,e9,e11]
  exact hNx _ _ _ ⟨u % N,Nat.mod_lt _ (by omega),N,T,toL (subM (val S) (u / N * val T % val n) (val n)),vt,_,rfl,by simp[e1],by simp,by simp,by simp,by simp,ht,.inl rfl,l2,by have:=toL_len_lt (b:=toL N) (n:=u % N) (by rw[val_toL]; exact Nat.mod_lt _ (by omega)); omega,l4,by have:=toL_len_lt (b:=n) (subM_lt (a:=val S) (b:=u / N * val T % val n) h); omega,by rw[val_toL]; exact EU_step h hE⟩
theorem reduce_iv {n:List UInt64} (h:oddL n=true) (k:Nat):ivE (2 ^ (64 * k) % val n) (val n)=0∧ivR (2 ^ (64 * k) % val n) (val n)=toL (invN (2 ^ (64 * k) % val n) (val n))∧invN (2 ^ (64 * k) % val n) (val n) < val n:=by
 have h1:=oddL_ne h
 have h2:=radix_coprime' (oddL_odd h) (64 * k)
 exact⟨by simp[ivE,h1,h2],by simp[ivR,h1,h2],(invN_spec h1 h2).1⟩
theorem ref03_Reduce_ok (t n:List UInt64) (l:Int) (ht:t.length≤4000) (hn:n.length≤4000):FnS Tryz.prog 30 [LU t,LU n,.i l] (.tup [.dy 0 0,.i (reE n l)]) [RU (reR t n l)]:=by
 refine FnS.rowE (call_body r_ref03_Reduce k_ref03_Reduce (by simp) ?_)
 simp[c_ref03_Reduce]
 refine CallL_F (ref03_Radix_ok l n (by omega)) (by simp) ?_
 by_cases hl:l < 0∨512 < l
 ·have hl2:¬ (0≤l∧l≤512):=by omega
  simp[RU,rdE,rdR,hl,reE,reR,hl2,RowAt]
 have hl2:0≤l∧l≤512:=by omega
 by_cases h1:val n=0
 ·have h:oddL n=false:=by rw[oddL_val,h1]; rfl
  simp[RU,rdE,rdR,hl,mE_0 h1,mR_0 h1,reE,reR,h,RowAt]
 simp[RU,rdE,rdR,hl,mE_p h1,mR_p h1]
 refine CallL_F (ref03_odd_ok n) (by simp) ?_
 cases h:oddL n
 ·simp[h,reE,reR,RowAt]
 obtain⟨i1,i2,i3⟩:=reduce_iv h l.toNat
 have hm:=toL_len_lt (b:=n) (Nat.mod_lt (2 ^ (64 * l.toNat)) (show 0 < val n by omega))
 have hm2:=toL_len_lt (b:=n) i3
 simp[h]
 refine CallL_V (ref03_Inverse_ok (toL (2 ^ (64 * l.toNat) % val n)) n (by omega) (by omega)) (by simp) ?_
 rw[val_toL,i1,i2]
 simp
 refine CallL_S (ref03_Mul_ok t (toL (invN (2 ^ (64 * l.toNat) % val n) (val n))) n (by omega) (by omega) (by omega)) (by simp) ?_
 simp[val_toL,mE_p h1,mR_p h1,reE,reR,h,hl2]
 exact .inr ⟨_,0,0,rfl,by simp[RU]⟩
end Go.Proofs.YtodjkjimaheggaaGreat
