/- Numbers modulo another one: inverses. -/
import Derived.Test.YtnbnhnjffiagmaaGreatFnO
namespace Go.Proofs.YtnbnhnjffiagmaaGreat
open Go.Sv
set_option linter.unusedSimpArgs false
def c_modular_euclid_step:LC:=(.seq (.ops [.z 2 (.move (.c (.bool false)))]) (.seq (.seq (.ops [.m 10 0,.z 11 (.nilChk (.t 10)),.f 12 3 11,.f 13 0 12,.l 14 13,.z 15 (.lenSl (.t 14)),.z 16 (.bin .eql true 3 (.t 15) (.c (.i 0)))]) (.cond (.t 16) (.seq (.ops [.z 2 (.move (.c (.bool false)))]) .ret) .skip)) (.seq (.draw [(.m 18 0,[]),(.z 19 (.nilChk (.t 18)),[]),(.f 20 1 19,[]),(.f 21 0 20,[]),(.l 22 21,[]),(.m 23 0,[]),(.z 24 (.nilChk (.t 23)),[]),(.f 25 3 24,[]),(.f 26 0 25,[]),(.l 27 26,[]),(.z 28 (.callV (.c (.fn (.func 144) [] [])) [.t 22,.t 27]),[]),(.m 17 28,[]),(.z 29 (.extract 0 (.t 17)),[]),(.z 30 (.extract 1 (.t 17)),[]),(.z 31 (.extract 2 (.t 17)),[]),(.m 3 29,[]),(.m 4 30,[]),(.m 5 31,[])]) (.seq (.draw [(.m 33 3,[]),(.m 34 0,[]),(.z 35 (.nilChk (.t 34)),[]),(.f 36 3 35,[]),(.f 37 1 36,[]),(.l 38 37,[]),(.m 39 0,[]),(.z 40 (.nilChk (.t 39)),[]),(.f 41 0 40,[]),(.l 42 41,[]),(.z 43 (.callV (.c (.fn (.func 149) [] [])) [.t 33,.t 38,.t 42]),[]),(.m 32 43,[]),(.z 44 (.extract 0 (.t 32)),[]),(.z 45 (.extract 1 (.t 32)),[]),(.m 6 44,[]),(.m 7 45,[])]) (.seq (.draw [(.m 47 0,[]),(.z 48 (.nilChk (.t 47)),[]),(.f 49 1 48,[]),(.f 50 1 49,[]),(.l 51 50,[]),(.m 52 6,[]),(.m 53 0,[]),(.z 54 (.nilChk (.t 53)),[]),(.f 55 0 54,[]),(.l 56 55,[]),(.z 57 (.callV (.c (.fn (.func 109) [] [])) [.t 51,.t 52,.t 56]),[]),(.m 46 57,[]),(.z 58 (.extract 0 (.t 46)),[]),(.z 59 (.extract 1 (.t 46)),[]),(.m 8 58,[]),(.m 9 59,[])]) (.seq (.ops [.m 60 0,.m 61 0,.m 62 0,.z 63 (.nilChk (.t 62)),.f 64 3 63,.z 65 (.loadN 2 (.t 64)),.m 66 4,.m 67 8,.z 68 (.build [.nilSl,.nilSl] [(0,1,.t 66),(1,1,.t 67)]),.z 69 (.nilChk (.t 60)),.f 70 1 69,⟨none,none,.store 2 (.t 70) (.t 65)⟩,.z 71 (.nilChk (.t 61)),.f 72 3 71,⟨none,none,.store 2 (.t 72) (.t 68)⟩]) (.seq (.ops [.z 2 (.move (.c (.bool true)))]) .ret)))))))
theorem r_modular_euclid_step:resFn Tryz.prog 166=some ⟨73,c_modular_euclid_step.r,[.tmp 2]⟩:=by kernel_rfl
theorem k_modular_euclid_step:c_modular_euclid_step.ok=true:=by kernel_rfl
def c_modular_Inverse:LC:=(.seq (.ops [.z 4 (.move (.c .nilSl)),.z 5 (.move (.c (.i 0)))]) (.seq (.ops [.m 10 0,.m 11 1,.z 12 (.callV (.c (.fn (.func 145) [] [])) [.t 10,.t 11]),.m 9 12,.z 13 (.extract 0 (.t 9)),.z 14 (.extract 1 (.t 9)),.m 6 13,.m 7 14]) (.seq (.seq (.ops [.m 15 7,.z 16 (.bin .neq true 32 (.t 15) (.c (.i 0)))]) (.cond (.t 16) (.seq (.ops [.m 17 7,.z 4 (.move (.c .nilSl)),.m 5 17]) .ret) .skip)) (.seq (.ops [.m 18 1,.z 19 (.callV (.c (.fn (.func 42) [] [])) [.t 18]),.m 20 1,.z 21 (.callV (.c (.fn (.func 42) [] [])) [.t 20]),.z 22 (.build [.nilSl,.nilSl] [(0,1,.t 21)]),.m 23 6,.z 24 (.buildSl 1 1 [(.u 0)] [(0,1,.c (.u 1))]),.z 25 (.build [.nilSl,.nilSl] [(0,1,.t 23),(1,1,.t 24)]),.z 26 (.build [.nilSl,.nilSl,.nilSl,.nilSl,.nilSl] [(0,1,.t 19),(1,2,.t 22),(3,2,.t 25)]),.z 27 (.box (.t 26)),.m 8 27]) (.seq (.block 0 (.loop (.seq (.seq (.ops [.m 28 8,.z 29 (.callV (.c (.fn (.func 166) [] [])) [.t 28])]) (.cond (.t 29) .skip (.exit 0))) (.block 1 .skip)))) (.seq (.seq (.ops [.m 30 8,.z 31 (.nilChk (.t 30)),.f 32 1 31,.f 33 0 32,.l 34 33,.z 35 (.buildSl 1 1 [(.u 0)] [(0,1,.c (.u 1))]),.z 36 (.callV (.c (.fn (.func 53) [] [])) [.t 34,.t 35]),.z 37 (.bin .neq true 3 (.t 36) (.c (.i 0)))]) (.cond (.t 37) (.seq (.ops [.z 4 (.move (.c .nilSl)),.z 5 (.move (.c (.i 5)))]) .ret) .skip)) (.seq (.ops [.m 38 8,.z 39 (.nilChk (.t 38)),.f 40 1 39,.f 41 1 40,.l 42 41,.m 43 1,.z 44 (.callV (.c (.fn (.func 145) [] [])) [.t 42,.t 43]),.z 45 (.extract 0 (.t 44)),.z 46 (.extract 1 (.t 44)),.m 4 45,.m 5 46]) .ret)))))))
theorem r_modular_Inverse:resFn Tryz.prog 148=some ⟨47,c_modular_Inverse.r,[.tmp 4,.tmp 5]⟩:=by kernel_rfl
theorem k_modular_Inverse:c_modular_Inverse.ok=true:=by kernel_rfl
def c_modular_Reduce:LC:=(.seq (.ops [.z 6 (.move (.c .nilSl)),.z 7 (.move (.c (.i 0)))]) (.seq (.seq (.ops [.m 11 1,.z 12 (.callV (.c (.fn (.func 146) [] [])) [.t 11]),.z 13 (.un .not (.t 12))]) (.cond (.t 13) (.seq (.ops [.z 6 (.move (.c .nilSl)),.z 7 (.move (.c (.i 2)))]) .ret) .skip)) (.seq (.ops [.m 15 2,.m 16 1,.z 17 (.callV (.c (.fn (.func 147) [] [])) [.t 15,.t 16]),.m 14 17,.z 18 (.extract 0 (.t 14)),.z 19 (.extract 1 (.t 14)),.m 8 18,.m 9 19]) (.seq (.seq (.ops [.m 20 9,.z 21 (.bin .neq true 32 (.t 20) (.c (.i 0)))]) (.cond (.t 21) (.seq (.ops [.m 22 9,.z 6 (.move (.c .nilSl)),.m 7 22]) .ret) .skip)) (.seq (.ops [.m 24 8,.m 25 1,.z 26 (.callV (.c (.fn (.func 148) [] [])) [.t 24,.t 25]),.m 23 26,.z 27 (.extract 0 (.t 23)),.z 28 (.extract 1 (.t 23)),.m 10 27,.m 9 28]) (.seq (.seq (.ops [.m 29 9,.z 30 (.bin .neq true 32 (.t 29) (.c (.i 0)))]) (.cond (.t 30) (.seq (.ops [.m 31 9,.z 6 (.move (.c .nilSl)),.m 7 31]) .ret) .skip)) (.seq (.ops [.m 32 0,.m 33 10,.m 34 1,.z 35 (.callV (.c (.fn (.func 149) [] [])) [.t 32,.t 33,.t 34]),.z 36 (.extract 0 (.t 35)),.z 37 (.extract 1 (.t 35)),.m 6 36,.m 7 37]) .ret)))))))
theorem r_modular_Reduce:resFn Tryz.prog 111=some ⟨38,c_modular_Reduce.r,[.tmp 6,.tmp 7]⟩:=by kernel_rfl
theorem k_modular_Reduce:c_modular_Reduce.ok=true:=by kernel_rfl
def RV (G:LHeap) (v:LV) (l:List UInt64):Prop:=v=LU l∨(v=.nilSl∧l=[])∨∃ q st,v=.dy q 0∧G[q]?=some (.dyn (l.map .u) l.length 1 0 st)
theorem RV.bor {G:LHeap} {v:LV} {l:List UInt64} (h:RV G v l):bor G v (LU l):=by
 rcases h with rfl | ⟨rfl,rfl⟩ | ⟨q,st,rfl,hg⟩
 ·exact⟨rfl,by simp⟩
 ·exact .inr ⟨1,by simp⟩
 ·exact⟨_,_,_,st,rfl,hg,by simp⟩
theorem RV.set {G:LHeap} {v:LV} {l:List UInt64} (h:RV G v l) {p st:Nat} {cs:List LV} (hp:G[p]?=some (.cells cs st)) (x:LObj):RV (G.set p x) v l:=by
 rcases h with h | h | ⟨q,st',h1,hg⟩
 ·exact .inl h
 ·exact .inr (.inl h)
 ·refine .inr (.inr ⟨q,st',h1,?_⟩)
  rw[gset_ne (fun e=>by subst e; rw[hp] at hg; cases hg)]
  exact hg
theorem RV.app {G:LHeap} {v:LV} {l:List UInt64} (h:RV G v l) (x:LHeap):RV (G++x) v l:=by
 rcases h with h | h | ⟨q,st',h1,hg⟩
 ·exact .inl h
 ·exact .inr (.inl h)
 ·exact .inr (.inr ⟨q,st',h1,gapp hg x⟩)
theorem bors3 {G:LHeap} {v d v' d' v'' d'':LV} (h:Go.Sv.bor G v d) (h':Go.Sv.bor G v' d') (h'':Go.Sv.bor G v'' d''):bors G [v,v',v''] [d,d',d'']:=⟨d,_,rfl,h,bors2 h' h''⟩
theorem euclid_end {G:LHeap} {p st:Nat} {vn va vs vt:LV} {K:LV→LHeap→Prop} (hg:G[p]?=some (.cells [vn,va,vs,LU [],vt] st)) (k:K (.bool false) G):CallL Tryz.prog (.fn 166) [.ptr p 0] G K:=by
 refine call_body r_modular_euclid_step k_modular_euclid_step (by simp) ?_
 simp only[LU] at hg
 simp[c_modular_euclid_step,hg]
 exact k
theorem euclid_step {G:LHeap} {p st u v:Nat} {n S T:List UInt64} {vs vt:LV} {K:LV→LHeap→Prop} (hg:G[p]?=some (.cells [LU n,LU (toL u),vs,LU (toL v),vt] st)) (hs:RV G vs S) (ht:RV G vt T) (hv:v≠0) (hn:val n≠0)
  (l1:n.length≤4000) (l2:(toL u).length≤4000) (l3:(toL v).length≤4000) (l4:S.length≤4000) (l5:T.length≤4000)
  (k:K (.bool true) (G.set p (.cells [LU n,LU (toL v),vt,LU (toL (u % v)),LU (toL (subM (val S) (u / v * val T % val n) (val n)))] (st+2)))):CallL Tryz.prog (.fn 166) [.ptr p 0] G K:=by
 refine call_body r_modular_euclid_step k_modular_euclid_step (by simp) ?_
 simp only[LU] at hg
 have hp:toL v≠[]:=fun e=>hv (toL_eq_nil.1 e)
 have hp1:¬ ((toL v).length:Int)=0:=by have:=List.length_pos_iff.2 hp; omega
 have hlt:=(List.getElem?_eq_some_iff.1 hg).1
 simp[c_modular_euclid_step,hg,hp,hp1]
 refine CallL_F (nat_Div_ok (toL u) (toL v) (by omega) (by omega)) (by simp) ?_
 have q1:(toL (u / v)).length≤(toL u).length:=toL_len_le (by rw[val_toL]; exact Nat.div_le_self _ _)
 simp[RU,val_toL,hv,hg]
 refine CallL_F (modular_Mul_ok (toL (u / v)) T n (by omega) (by omega) (by omega)) (bors3 (by simp) ht.bor (by simp)) ?_
 have q2:=toL_len_lt (b:=n) (Nat.mod_lt (u / v * val T) (show 0 < val n by omega))
 simp[RU,val_toL,mE_p hn,mR_p hn,hg]
 refine CallL_F (modular_Sub_ok S (toL (u / v * val T % val n)) n (by omega) (by omega) (by omega)) (bors3 hs.bor (by simp) (by simp)) ?_
 have ht1:vt.cells=some [vt]:=by
  rcases ht with rfl | ⟨rfl,_⟩ | ⟨q,st,rfl,_⟩ <;> rfl
 have hge:=(List.getElem?_eq_some_iff.1 hg).2
 simp[RU,val_toL,mE_p hn,mR_p hn,hg,hlt,hge]
 exact k
theorem modular_Inverse_ok (a n:List UInt64) (ha:a.length≤4000) (hn:n.length≤4000):FnV Tryz.prog 148 [LU a,LU n] (.tup [LU (ivR (val a) (val n)),.i (ivE (val a) (val n))]):=by
 refine FnV.mk (by simp[LV.dat]) (call_body r_modular_Inverse k_modular_Inverse (by simp) ?_)
 simp[c_modular_Inverse]
 refine CallL_F (modular_rest_ok a n (by omega) (by omega)) (by simp) ?_
 by_cases h:val n=0
 ·simp[RU,h,mE,mR,ivE,ivR]
 have hx:=mR_len a n h
 rw[←ivR_mod,←ivE_mod]
 generalize val a % val n=x at *
 simp[RU,mE_p h,mR_p h]
 refine CallL_F (nat_Trim_ok n (by omega)) (by simp) ?_
 simp[RU]
 refine CallL_F (nat_Trim_ok n (by omega)) (by simp) ?_
 have hnl:=toL_length_val n
 have vnn:val (toL (val n))=val n:=val_toL _
 have hm0:=fun y=>toL_len_lt (b:=n) (Nat.mod_lt y (show 0 < val n by omega))
 simp[RU]
 refine loop_nx (fun ρ D G N=>∃ (u:Nat) (S T:List UInt64) (vs vt:LV) (st:Nat),D=[]∧lk ρ 1=LU n∧lk ρ 8=.ptr 1 0∧G[1]?=some (.cells [LU (toL (val n)),LU (toL u),vs,LU (toL N),vt] st)∧RV G vs S∧RV G vt T∧(toL u).length≤n.length∧(toL N).length≤n.length∧S.length≤4000∧T.length≤4000∧EU (val n) x u N (val S) (val T)) (N:=x)
  ⟨val n,[],[1],.nilSl,.dy 0 0,0,by simp,by simp,by simp,by simp,.inr (.inl ⟨rfl,rfl⟩),.inr (.inr ⟨0,0,rfl,by simp⟩),hnl,hx,by simp,by simp,by simpa [val] using EU_start (val n) x⟩ ?_
 rintro N ρ D G ⟨u,S,T,vs,vt,st,rfl,e1,e8,g1,hs,ht,l1,l2,l3,l4,hE⟩ Nx hNx
 by_cases hz:N=0
 ·subst hz
  have hu:=EU_end hE
  simp[e8]
  rw[toL_zero] at g1
  refine euclid_end g1 ?_
  simp only[LU] at g1
  simp[e8,g1]
  refine CallL_F (nat_Compare_ok (toL u) [1] (by omega) (by simp)) (bors2 (by simp) (RowAt.bor (l:=[1]) (.inr ⟨_,0,0,rfl,by simp⟩))) ?_
  rw[val_toL,val_one]
  by_cases h1:u=1
  ·have hg1:Nat.gcd x (val n)=1:=by rw[←hu]; exact h1
   subst h1
   have hi:=EU_inv h hE
   have g2:=fun x=>gapp g1 x
   have g3 : ∀ (x : LHeap) (h : 1 < (G ++ x).length), (G ++ x)[1]'h = _ := fun x h => (List.getElem?_eq_some_iff.1 (g2 x)).2
   simp[cmpN_self,e1,e8,g2,g3]
   refine CallL_F (modular_rest_ok S n (by omega) (by omega)) (bors2 (hs.app _).bor (by simp)) ?_
   simp[RU,mE_p h,mR_p h,ivE,ivR,h,hg1,hi]
  ·have hg1:¬ Nat.gcd x (val n)=1:=by rw[←hu]; exact h1
   have hc:¬ cmpN u (1:UInt64).toNat=0:=by rw[cmpN_eq]; simpa using h1
   simp at hc
   simp[hc,ivE,ivR,h,hg1]
 ·simp[e8]
  refine euclid_step g1 hs ht hz (by rw[vnn]; exact h) (by omega) (by omega) (by omega) l3 l4 ?_
  rw[vnn]
  simp
  exact hNx _ _ _ ⟨u % N,Nat.mod_lt _ (by omega),N,T,toL (subM (val S) (u / N * val T % val n) (val n)),vt,_,_,rfl,by simp[e1],by simp[e8],gset g1 _,ht.set g1 _,.inl rfl,l2,by have:=toL_len_lt (b:=toL N) (n:=u % N) (by rw[val_toL]; exact Nat.mod_lt _ (by omega)); omega,l4,by have:=toL_len_lt (b:=n) (subM_lt (a:=val S) (b:=u / N * val T % val n) h); omega,by rw[val_toL]; exact EU_step h hE⟩
theorem reduce_iv {n:List UInt64} (h:oddL n=true) (k:Nat):ivE (2 ^ (64 * k) % val n) (val n)=0∧ivR (2 ^ (64 * k) % val n) (val n)=toL (invN (2 ^ (64 * k) % val n) (val n))∧invN (2 ^ (64 * k) % val n) (val n) < val n:=by
 have h1:=oddL_ne h
 have h2:=radix_coprime' (oddL_odd h) (64 * k)
 exact⟨by simp[ivE,h1,h2],by simp[ivR,h1,h2],(invN_spec h1 h2).1⟩
theorem modular_Reduce_ok (t n:List UInt64) (l:Int) (ht:t.length≤4000) (hn:n.length≤4000):FnS Tryz.prog 111 [LU t,LU n,.i l] (.tup [.dy 0 0,.i (reE n l)]) [RU (reR t n l)]:=by
 refine FnS.rowE (call_body r_modular_Reduce k_modular_Reduce (by simp) ?_)
 simp[c_modular_Reduce]
 refine CallL_F (modular_odd_ok n) (by simp) ?_
 cases h:oddL n
 ·simp[h,reE,reR,RowAt]
 have h1:=oddL_ne h
 simp[h]
 refine CallL_F (modular_Radix_ok l n (by omega)) (by simp) ?_
 by_cases hl:l < 0∨512 < l
 ·have hl2:¬ (0≤l∧l≤512):=by omega
  simp[RU,rdE,rdR,hl,reE,reR,hl2,RowAt]
 have hl2:0≤l∧l≤512:=by omega
 obtain⟨i1,i2,i3⟩:=reduce_iv h l.toNat
 have hm:=toL_len_lt (b:=n) (Nat.mod_lt (2 ^ (64 * l.toNat)) (show 0 < val n by omega))
 have hm2:=toL_len_lt (b:=n) i3
 simp[RU,rdE,rdR,hl,mE_p h1,mR_p h1]
 refine CallL_V (modular_Inverse_ok (toL (2 ^ (64 * l.toNat) % val n)) n (by omega) (by omega)) (by simp) ?_
 rw[val_toL,i1,i2]
 simp
 refine CallL_S (modular_Mul_ok t (toL (invN (2 ^ (64 * l.toNat) % val n) (val n))) n (by omega) (by omega) (by omega)) (by simp) ?_
 simp[val_toL,mE_p h1,mR_p h1,reE,reR,h,hl2]
 exact .inr ⟨_,0,0,rfl,by simp[RU]⟩
end Go.Proofs.YtnbnhnjffiagmaaGreat
