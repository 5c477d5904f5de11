/- MontgomeryBack, walked. -/
import Derived.Test.YtodjkjimaheggaaGreatSvG3

import Derived.Test.YtodjkjimaheggaaGreatFnMr
import Derived.Test.YtodjkjimaheggaaGreatFnL23
namespace Go.Proofs.YtodjkjimaheggaaGreat
open Go.Sv
set_option linter.unusedSimpArgs false
set_option maxRecDepth 10000
def z0v:LC:=(.seq (.ops [.z 8 (.move (.c (.bool false)))]) (.seq (.seq (.ops [.z 29 (.callV (.c (.fn (.func 13) [] [])) []),.z 30 (.un .not (.t 29))]) (.cond (.t 30) (.seq (.ops [.z 8 (.move (.c (.bool false)))]) .ret) .skip)) (.seq (.seq (.ops [.m 31 1,.z 32 (.lenSl (.t 31)),.z 33 (.bin .gtr true 3 (.t 32) (.c (.i 40))),.m 34 33,⟨some 35,(some (34,false)),.move (.t 2)⟩,⟨some 36,(some (34,false)),.lenSl (.t 35)⟩,⟨some 37,(some (34,false)),.bin .gtr true 3 (.t 36) (.c (.i 40))⟩,.z 38 (.pick (.t 34) (.c (.bool true)) (.t 37)),.m 39 38,⟨some 40,(some (39,false)),.move (.t 3)⟩,⟨some 41,(some (39,false)),.lenSl (.t 40)⟩,⟨some 42,(some (39,false)),.bin .gtr true 3 (.t 41) (.c (.i 40))⟩,.z 43 (.pick (.t 39) (.c (.bool true)) (.t 42))]) (.cond (.t 43) (.seq (.ops [.z 8 (.move (.c (.bool true)))]) .ret) .skip)) (.seq (.ops [.m 44 0,.z 45 (.callV (.c (.fn (.func 17) [] [])) [.t 44,.c (.i 6)]),.z 46 (.bin .add true 3 (.c (.i 1)) (.t 45)),.m 0 46]) (.seq (.ops [.m 47 3,.z 48 (.callV (.c (.fn (.func 27) [] [])) [.t 47]),.z 49 (.buildSl 1 1 [(.u 0)] [(0,1,.c (.u 7))]),.z 50 (.appG 1 (.t 48) (.t 49)),.m 51 0,.z 52 (.callV (.c (.fn (.func 26) [] [])) [.t 50,.t 51]),.m 9 52]) (.seq (.ops [.m 53 9,.m 54 9,.z 55 (.ixAddr 1 (.t 54) (.c (.i 0))),.l 56 55,.z 57 (.bin .or true 23 (.t 56) (.c (.u 1))),.z 58 (.ixAddr 1 (.t 53) (.c (.i 0))),⟨none,none,.store 1 (.t 58) (.t 57)⟩]) (.seq (.ops [.m 60 1,.z 61 (.callV (.c (.fn (.func 27) [] [])) [.t 60]),.z 62 (.buildSl 1 1 [(.u 0)] [(0,1,.c (.u 3))]),.z 63 (.appG 1 (.t 61) (.t 62)),.m 64 0,.z 65 (.callV (.c (.fn (.func 26) [] [])) [.t 63,.t 64]),.m 66 9,.z 67 (.callV (.c (.fn (.func 28) [] [])) [.t 65,.t 66]),.m 59 67,.z 68 (.extract 0 (.t 59)),.z 69 (.extract 1 (.t 59)),.z 70 (.extract 2 (.t 59)),.m 10 68,.m 11 69,.m 12 70]) (.seq (.ops [.m 72 2,.z 73 (.callV (.c (.fn (.func 27) [] [])) [.t 72]),.z 74 (.buildSl 1 1 [(.u 0)] [(0,1,.c (.u 5))]),.z 75 (.appG 1 (.t 73) (.t 74)),.m 76 0,.z 77 (.callV (.c (.fn (.func 26) [] [])) [.t 75,.t 76]),.m 78 9,.z 79 (.callV (.c (.fn (.func 28) [] [])) [.t 77,.t 78]),.m 71 79,.z 80 (.extract 0 (.t 71)),.z 81 (.extract 1 (.t 71)),.z 82 (.extract 2 (.t 71)),.m 13 80,.m 14 81,.m 15 82]) (.seq (.ops [.m 84 0,.z 85 (.bin .mul true 3 (.c (.i 2)) (.t 84)),.m 86 9,.z 87 (.callV (.c (.fn (.func 33) [] [])) [.t 85,.t 86]),.m 83 87,.z 88 (.extract 0 (.t 83)),.z 89 (.extract 1 (.t 83)),.m 16 88,.m 17 89]) (.seq (.ops [.z 91 (.buildSl 1 1 [(.u 0)] [(0,1,.c (.u 1))]),.m 92 9,.z 93 (.callV (.c (.fn (.func 28) [] [])) [.t 91,.t 92]),.m 90 93,.z 94 (.extract 0 (.t 90)),.z 95 (.extract 1 (.t 90)),.z 96 (.extract 2 (.t 90)),.m 18 94,.m 19 95,.m 20 96]) (.seq (.ops [.m 98 0,.m 99 11,.m 100 16,.m 101 9,.z 102 (.callV (.c (.fn (.func 34) [] [])) [.t 98,.t 99,.t 100,.t 101]),.m 97 102,.z 103 (.extract 0 (.t 97)),.z 104 (.extract 1 (.t 97)),.m 21 103,.m 22 104]) (.seq (.seq (.ops [.m 105 22,.z 106 (.un .not (.t 105)),.m 107 106,⟨some 108,(some (107,false)),.move (.t 17)⟩,⟨some 109,(some (107,false)),.bin .neq true 35 (.t 108) (.c (.i 0))⟩,.z 110 (.pick (.t 107) (.c (.bool true)) (.t 109))]) (.cond (.t 110) (.seq (.ops [.z 8 (.move (.c (.bool false)))]) .ret) .skip)) (.seq (.ops [.m 112 0,.m 113 21,.m 114 19,.m 115 9,.z 116 (.callV (.c (.fn (.func 34) [] [])) [.t 112,.t 113,.t 114,.t 115]),.m 111 116,.z 117 (.extract 0 (.t 111)),.z 118 (.extract 1 (.t 111)),.m 23 117,.m 24 118]) (.seq (.ops [.m 120 0,.m 121 11,.m 122 14,.m 123 9,.z 124 (.callV (.c (.fn (.func 34) [] [])) [.t 120,.t 121,.t 122,.t 123]),.m 119 124,.z 125 (.extract 0 (.t 119)),.z 126 (.extract 1 (.t 119)),.m 25 125,.m 26 126]) (.seq (.ops [.m 128 0,.m 129 14,.m 130 11,.m 131 9,.z 132 (.callV (.c (.fn (.func 34) [] [])) [.t 128,.t 129,.t 130,.t 131]),.m 127 132,.z 133 (.extract 0 (.t 127)),.z 134 (.extract 1 (.t 127)),.m 27 133,.m 28 134]) (.seq (.ops [.m 135 24,.m 136 135,⟨some 137,(some (136,true)),.move (.t 26)⟩,.z 138 (.pick (.t 136) (.t 137) (.c (.bool false))),.m 139 138,⟨some 140,(some (139,true)),.move (.t 28)⟩,.z 141 (.pick (.t 139) (.t 140) (.c (.bool false))),.m 142 141,⟨some 143,(some (142,true)),.move (.t 23)⟩,⟨some 144,(some (142,true)),.move (.t 11)⟩,⟨some 145,(some (142,true)),.callV (.c (.fn (.func 32) [] [])) [.t 143,.t 144]⟩,.z 146 (.pick (.t 142) (.t 145) (.c (.bool false))),.m 147 146,⟨some 148,(some (147,true)),.move (.t 25)⟩,⟨some 149,(some (147,true)),.move (.t 27)⟩,⟨some 150,(some (147,true)),.callV (.c (.fn (.func 32) [] [])) [.t 148,.t 149]⟩,.z 151 (.pick (.t 147) (.t 150) (.c (.bool false))),.m 8 151]) .ret))))))))))))))))
theorem r_law23_MontgomeryBack:z0f Tryz.prog 5=some ⟨152,z0v.r,[.tmp 8]⟩:=by kernel_rfl
theorem k_law23_MontgomeryBack:z0v.ok=true:=by kernel_rfl
theorem odd_orB (x:UInt64) (l:List UInt64):oddL (orU x 1::l)=true:=by
 unfold oddL
 refine decide_eq_true ?_
 rw[List.getD_cons_zero,z9d]
 apply UInt64.toNat.inj
 rw[UInt64.toNat_mod,UInt64.toNat_or]
 show (x.toNat ||| 1) % 2=1
 rw[Nat.or_mod_two_eq_one]
 exact .inr rfl
theorem zcy {k:Nat} {a b n:List UInt64} (hn:n.length=k+1) (h0:0 < val n):val (z8d k a b n)=zhn k a b n∧(z8d k a b n).length=k+1∧zhn k a b n < val n:=by
 have h1:zhn k a b n < val n:=Nat.mod_lt _ h0
 have hb2:=z1t (Nat.lt_trans h1 (z3l (Nat.le_of_eq hn)))
 refine⟨?_,by simp[z8d]; omega,h1⟩
 rw[z8d,val_append,val_rep0,z3g,Nat.mul_zero]; rfl
set_option maxHeartbeats 2000000 in
theorem z89 (limbs:Int) (a b n:List UInt64):z0k Tryz.prog (.fn 5) [.i limbs,LU a,LU b,LU n] [] fun v _=>v=.bool true:=by
 refine call_spl r_law23_MontgomeryBack k_law23_MontgomeryBack (by simp) ?_
 refine W_spl (Φ:=fun ρ D G=>∃ k:Nat,k≤5∧a.length≤40∧b.length≤40∧n.length≤40∧D=[]∧lk ρ 0=.i ((k:Int)+1)∧lk ρ 1=LU a∧lk ρ 2=LU b∧lk ρ 3=LU n∧G=[]) 3 _ rfl (fun Nx hNx=>?_) (fun ρ D G hΦ=>?_)
 ·simp[z0v,spl,LU]
  refine z02 law23_lives_ok (by simp) ?_
  by_cases ha:(40:Int) < a.length
  ·simp[ha]
  by_cases hb:(40:Int) < b.length
  ·simp[ha,hb]
  by_cases hn:(40:Int) < n.length
  ·simp[ha,hb,hn]
  simp[ha,hb,hn]
  obtain⟨k,hk,hK⟩:=zos limbs 6 (by omega)
  refine z02 hK (by simp) ?_
  simp
  refine⟨by omega,?_⟩
  exact hNx _ _ _ ⟨k,by omega,by omega,by omega,by omega,rfl,by simp; omega,by simp[LU],by simp[LU],by simp[LU],rfl⟩
 obtain⟨k,hk,ha,hb,hn,rfl,h0,h1,h2,h3,rfl⟩:=hΦ
 refine W_spl (Φ:=fun ρ D G=>∃ (c:List UInt64) (p st:Nat),c.length=k+1∧oddL c=true∧D=[]∧lk ρ 0=.i ((k:Int)+1)∧lk ρ 1=LU a∧lk ρ 2=LU b∧lk ρ 9=.dy p 0∧G[p]?=some (.dyn (c.map .u) c.length 1 0 st)) 1 _ rfl (fun NX hNX=>?_) (fun ρ D G hΦ=>?_)
 ·simp[z0v,spl,h0,h1,h2,h3]
  refine zbp (zde n (by omega)) (by simp[LU]) ?_
  simp[RU,h0]
  refine⟨by omega,?_⟩
  have w1:([LObj.dyn (n.map .u++[.u 7]) (n.length+1) 1 1 1,LObj.dyn [.u 7] 1 1 0 0]:z03)[0]?=some (.dyn ((n++[7]).map .u) (n++[7]).length 1 1 1):=by simp
  refine zbp (z8r (n++[7]) (k+1) (by omega) (by simp; omega) (by simp)) ⟨_,_,rfl,⟨_,_,_,_,rfl,w1,z8b _⟩,_,_,rfl,⟨rfl,rfl⟩,rfl⟩ ?_
  have vx:([LObj.dyn (n.map .u++[.u 7]) (n.length+1) 1 1 1,LObj.dyn [.u 7] 1 1 0 0]++[RU (zdb (n++[7]) (k+1))]:z03)[2]?=some (.dyn ((zdb (n++[7]) (k+1)).map .u) (k+1) 1 0 0):=by simp[RU,z8c]
  have vl:([LObj.dyn (n.map .u++[.u 7]) (n.length+1) 1 1 1,LObj.dyn [.u 7] 1 1 0 0]++[RU (zdb (n++[7]) (k+1))]:z03).length=3:=by simp
  have hfl:=z8c (n++[7]) (k+1)
  generalize ([LObj.dyn (n.map .u++[.u 7]) (n.length+1) 1 1 1,LObj.dyn [.u 7] 1 1 0 0]++[RU (zdb (n++[7]) (k+1))]:z03)=G5 at *
  generalize zdb (n++[7]) (k+1)=c at *
  have hc0:0 < c.length:=by omega
  simp[vx,h0,hfl]
  refine hNX _ _ _ ⟨orU c[0] 1::c.tail,2,1,by simp; omega,odd_orB _ _,rfl,by simp[h0],by simp[h1],by simp[h2],by simp,?_⟩
  rw[List.getElem?_set_self (by omega)]; simp; omega
 clear h0 h1 h2 h3
 obtain⟨c,p,st,hcl,hco,rfl,h0,h1,h2,h9,hGp⟩:=hΦ
 have hcv:0 < val c:=Nat.pos_of_ne_zero (zp3 hco)
 refine W_fz (t:=9) hGp h9 ?_
 generalize (G.set p (.dead (st+1)):z03)=G at *
 have h9':lk ((9,.lst (c.map .u) c.length 1)::ρ) 9=LU c:=by simp[LU]
 have h0':lk ((9,.lst (c.map .u) c.length 1)::ρ) 0=.i ((k:Int)+1):=by simp[h0]
 have h1':lk ((9,.lst (c.map .u) c.length 1)::ρ) 1=LU a:=by simp[h1]
 have h2':lk ((9,.lst (c.map .u) c.length 1)::ρ) 2=LU b:=by simp[h2]
 clear h0 h1 h2 h9 hGp
 generalize ((9,LV.lst (c.map .u) c.length 1)::ρ:LEnv)=ρ at *
 have h9:=h9'
 have h0:=h0'
 have h1:=h1'
 have h2:=h2'
 clear h9' h0' h1' h2'
 refine W_spl (Φ:=fun ρ D _=>∃ X:List UInt64,val X < val c∧X.length≤k+1∧D=[]∧lk ρ 0=.i ((k:Int)+1)∧lk ρ 2=LU b∧lk ρ 9=LU c∧lk ρ 11=LU X) 0 _ rfl (fun NX hNX=>?_) (fun ρ D G hΦ=>?_)
 ·simp[z0v,spl,h1,h0,h9]
  refine zbp (zde a (by omega)) (by simp[LU]) ?_
  have r0:(G++[RU a])[G.length]?=some (RU a):=List.getElem?_concat_length
  have rl:(G++[RU a]).length=G.length+1:=by simp
  generalize G++[RU a]=G2 at *
  generalize G.length=z at *
  have r1:∀ x:List LObj,(G2++x)[z]?=some (RU a):=fun x=>(oldP (by omega)).trans r0
  simp only[RU] at r0 r1
  simp[r0,r1,h0,RU]
  refine⟨by omega,?_⟩
  have w1:((G2++[LObj.dyn [.u 3] 1 1 0 0]).set z (.dyn (a.map .u++[.u 3]) (a.length+1) 1 1 1))[z]?=some (.dyn ((a++[3]).map .u) (a++[3]).length 1 1 1):=by rw[List.getElem?_set_self (by simp; omega)]; simp
  refine z02 (z8r (a++[3]) (k+1) (by omega) (by simp; omega) (by simp)) ⟨_,_,rfl,⟨_,_,_,_,rfl,w1,z8b _⟩,_,_,rfl,⟨rfl,rfl⟩,rfl⟩ ?_
  have hfl:=z8c (a++[3]) (k+1)
  generalize zdb (a++[3]) (k+1)=F at *
  have hD:=z7l F c (by omega) (by omega)
  rw[if_neg (by omega),if_neg (by omega),if_neg (by omega)] at hD
  simp[RU,h9]
  refine z02 hD (zlp (by simp) (by simp)) ?_
  simp[RU]
  exact hNX _ _ _ ⟨toL (val F % val c),by rw[z3g]; exact Nat.mod_lt _ hcv,hcl ▸ zaz (Nat.mod_lt _ hcv),rfl,by simp[h0],by simp[h2],by simp[h9],by simp[LU]⟩
 clear h0 h1 h2 h9
 obtain⟨A,hA,hAl,rfl,h0,h2,h9,h11⟩:=hΦ
 refine W_spl (Φ:=fun ρ D _=>∃ X:List UInt64,val X < val c∧X.length≤k+1∧D=[]∧lk ρ 0=.i ((k:Int)+1)∧lk ρ 11=LU A∧lk ρ 9=LU c∧lk ρ 14=LU X) 0 _ rfl (fun NX hNX=>?_) (fun ρ D G hΦ=>?_)
 ·simp[z0v,spl,h2,h0,h9]
  refine zbp (zde b (by omega)) (by simp[LU]) ?_
  have r0:(G++[RU b])[G.length]?=some (RU b):=List.getElem?_concat_length
  have rl:(G++[RU b]).length=G.length+1:=by simp
  generalize G++[RU b]=G2 at *
  generalize G.length=z at *
  have r1:∀ x:List LObj,(G2++x)[z]?=some (RU b):=fun x=>(oldP (by omega)).trans r0
  simp only[RU] at r0 r1
  simp[r0,r1,h0,RU]
  refine⟨by omega,?_⟩
  have w1:((G2++[LObj.dyn [.u 5] 1 1 0 0]).set z (.dyn (b.map .u++[.u 5]) (b.length+1) 1 1 1))[z]?=some (.dyn ((b++[5]).map .u) (b++[5]).length 1 1 1):=by rw[List.getElem?_set_self (by simp; omega)]; simp
  refine z02 (z8r (b++[5]) (k+1) (by omega) (by simp; omega) (by simp)) ⟨_,_,rfl,⟨_,_,_,_,rfl,w1,z8b _⟩,_,_,rfl,⟨rfl,rfl⟩,rfl⟩ ?_
  have hfl:=z8c (b++[5]) (k+1)
  generalize zdb (b++[5]) (k+1)=F at *
  have hD:=z7l F c (by omega) (by omega)
  rw[if_neg (by omega),if_neg (by omega),if_neg (by omega)] at hD
  simp[RU,h9]
  refine z02 hD (zlp (by simp) (by simp)) ?_
  simp[RU]
  exact hNX _ _ _ ⟨toL (val F % val c),by rw[z3g]; exact Nat.mod_lt _ hcv,hcl ▸ zaz (Nat.mod_lt _ hcv),rfl,by simp[h0],by simp[h11],by simp[h9],by simp[LU]⟩
 clear h0 h2 h9 h11
 obtain⟨B,hB,hBl,rfl,h0,h11,h9,h14⟩:=hΦ
 refine wp_W _ ?_
 have hAn:A.length≤1000:=by omega
 have hBn:B.length≤1000:=by omega
 have hcb:val c < 2 ^ (64 * (k+1)):=z3l (Nat.le_of_eq hcl)
 have hRx:=zhy (2 * ((k:Int)+1)) c (by omega)
 have hre:rdE (2 * ((k:Int)+1)) (val c)=0:=by unfold rdE mE; rw[if_neg (by omega),if_neg (by omega)]
 have hSq:val (rdR (2 * ((k:Int)+1)) (val c))=2 ^ (64 * (k+1)) * 2 ^ (64 * (k+1)) % val c:=by
  unfold rdR mR
  rw[if_neg (by omega),if_neg (by omega),z3g,show (2 * ((k:Int)+1)).toNat=2 * (k+1) by omega,show 64 * (2 * (k+1))=64 * (k+1)+64 * (k+1) by omega,Nat.pow_add]
 have hSl:(rdR (2 * ((k:Int)+1)) (val c)).length≤1000:=by
  unfold rdR mR
  rw[if_neg (by omega),if_neg (by omega)]
  have:=zaz (Nat.mod_lt (2 ^ (64 * (2 * ((k:Int)+1)).toNat)) hcv)
  omega
 rw[hre] at hRx
 have hSq2:val (rdR (2 * ((k:Int)+1)) (val c)) < 2 ^ (64 * (k+1)):=by rw[hSq]; exact Nat.lt_trans (Nat.mod_lt _ hcv) hcb
 generalize rdR (2 * ((k:Int)+1)) (val c)=Sq at *
 have hD:=z7l [1] c (by simp) (by omega)
 rw[if_neg (by omega),if_neg (by omega),if_neg (by omega)] at hD
 have hone:val (toL (val [1] % val c))=1 % val c:=by rw[z3g]; rfl
 have honl:(toL (val [1] % val c)).length≤1000:=by
  have:=zaz (Nat.mod_lt (val [1]) hcv)
  omega
 generalize toL (val [1] % val c)=On at *
 have hon2:val On < 2 ^ (64 * (k+1)):=by rw[hone]; exact Nat.lt_trans (Nat.mod_lt _ hcv) hcb
 have P1:=z44 hk hAn hSl hcl hco hA hSq2
 obtain⟨px,lx,bx⟩:=zcy (k:=k) (a:=A) (b:=Sq) hcl hcv
 have P2:=z44 (a:=z8d k A Sq c) (b:=On) hk (by omega) honl hcl hco (by rw[px]; exact bx) hon2
 have P3:=z44 hk hAn hBn hcl hco hA (Nat.lt_trans hB hcb)
 have P4:=z44 hk hBn hAn hcl hco hB (Nat.lt_trans hA hcb)
 obtain⟨py,ly,bY⟩:=zcy (k:=k) (a:=z8d k A Sq c) (b:=On) hcl hcv
 obtain⟨pp,lp,_⟩:=zcy (k:=k) (a:=A) (b:=B) hcl hcv
 obtain⟨pq,lq,_⟩:=zcy (k:=k) (a:=B) (b:=A) hcl hcv
 have hinv:2 ^ (64 * (k+1)) * invN (2 ^ (64 * (k+1)) % val c) (val c) % val c=1 % val c:=by
  have hs:=(zn3 (zp3 hco) (zbb (zjh hco) (64 * (k+1)))).2
  rw[←hs]
  conv=>lhs; rw[Nat.mul_mod]
  conv=>rhs; rw[Nat.mul_mod,Nat.mod_mod]
 have hY:val (z8d k (z8d k A Sq c) On c)=val A:=by
  rw[py,zhn,px,zhn,hSq,hone]
  exact back_val hinv hA
 have hPQ:val (z8d k A B c)=val (z8d k B A c):=by
  rw[pp,pq,zhn,zhn,Nat.mul_comm (val A)]
 generalize z8d k (z8d k A Sq c) On c=Yy at *
 generalize z8d k A Sq c=Xx at *
 generalize z8d k A B c=Pp at *
 generalize z8d k B A c=Qq at *
 simp[z0v,spl,h0,h9,h11,h14]
 refine⟨by omega,?_⟩
 refine z02 hRx (by simp) ?_
 simp[RU,h9]
 refine z02 hD (zlp ⟨_,_,_,_,rfl,List.getElem?_concat_length,rfl⟩ (by simp)) ?_
 simp[RU,h0,h9,h11]
 refine z1p P1 (by simp[dats,LV.dat,z8b]) ?_
 simp[h0,h9]
 refine z1p P2 (by simp[dats,LV.dat,z8b]) ?_
 simp[h0,h9,h11,h14]
 refine z1p P3 (by simp[dats,LV.dat,z8b]) ?_
 simp[h0,h9,h11,h14]
 refine z1p P4 (by simp[dats,LV.dat,z8b]) ?_
 simp[h11]
 refine z02 (zbh Yy A (by omega) (by omega)) (zlp (by simp) (by simp)) ?_
 simp[hY]
 refine z02 (zbh Pp Qq (by omega) (by omega)) (zlp (by simp) (by simp)) ?_
 simp[hPQ]
end Go.Proofs.YtodjkjimaheggaaGreat
