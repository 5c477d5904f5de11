/- Kernels: whether an operation may be. -/
import Derived.Test.YtodjkjimaheggaaGreatFnKc
namespace Go.Proofs.YtodjkjimaheggaaGreat
open Go.Sv
set_option linter.unusedSimpArgs false
set_option maxRecDepth 10000
def z6z:LC:=(.seq (.ops [.z 3 (.move (.c (.bool false)))]) (.seq (.ops [.l 4 1,.m 5 0,.z 6 (.ixAddr 3 (.t 4) (.t 5)),.f 7 1 6,.l 8 7,.m 3 8]) .ret))
theorem r_lengths_one_1:z0f Tryz.prog 190=some ⟨9,z6z.r,[.tmp 3]⟩:=by kernel_rfl
theorem k_lengths_one_1:z6z.ok=true:=by kernel_rfl
def z6j:LC:=(.seq (.ops [.z 2 (.box (.t 0)),.z 3 (.box (.t 1)),.z 4 (.move (.c (.bool false)))]) (.seq (.seq (.ops [.f 13 0 3,.l 14 13,.z 15 (.bin .eql true 3 (.t 14) (.c (.i 17)))]) (.cond (.t 15) (.seq (.ops [.l 16 2,.z 17 (.loadN 7 (.t 3)),.z 18 (.callV (.c (.fn (.func 166) [] [])) [.t 16,.t 17]),.m 4 18]) .ret) .skip)) (.seq (.ops [.f 20 0 3,.l 21 20,.z 22 (.callV (.c (.fn (.func 187) [] [])) [.t 21]),.m 19 22,.z 23 (.extract 0 (.t 19)),.z 24 (.extract 1 (.t 19)),.m 5 23,.m 6 24]) (.seq (.seq (.ops [.m 25 6,.z 26 (.un .not (.t 25)),.m 27 26,⟨some 28,(some (27,false)),.loadN 7 (.t 3)⟩,⟨some 29,(some (27,false)),.callV (.c (.fn (.func 188) [] [])) [.t 28]⟩,⟨some 30,(some (27,false)),.un .not (.t 29)⟩,.z 31 (.pick (.t 27) (.c (.bool true)) (.t 30))]) (.cond (.t 31) (.seq (.ops [.z 4 (.move (.c (.bool false)))]) .ret) .skip)) (.seq (.seq (.ops [.z 32 (.loadN 7 (.t 3)),.z 33 (.callV (.c (.fn (.func 189) [] [])) [.t 32]),.z 34 (.move (.c (.i 0)))]) (.block 0 (.loop (.seq (.ops [.z 35 (.bin .lss true 3 (.t 34) (.c (.i 5)))]) (.seq (.cond (.t 35) .skip (.exit 0)) (.seq (.block 1 (.seq (.ops [.m 36 34,.z 37 (.ixArr false 5 1 (.t 33) (.t 34)),.m 7 36,.m 8 37]) (.seq (.ops [.m 38 5,.m 39 7,.z 40 (.bin .shr false 3 (.t 38) (.t 39)),.z 41 (.bin .and true 3 (.t 40) (.c (.i 1))),.z 42 (.bin .eql true 3 (.t 41) (.c (.i 1))),.m 9 42]) (.seq (.ops [.m 43 9,.m 44 43,⟨some 45,(some (44,true)),.move (.t 8)⟩,⟨some 46,(some (44,true)),.bin .lss true 3 (.t 45) (.c (.i 0))⟩,⟨some 47,(some (44,true)),.move (.t 46)⟩,⟨some 48,(some (47,false)),.move (.t 8)⟩,⟨some 49,(some (47,false)),.load1 (.t 2)⟩,⟨some 50,(some (47,false)),.lenSl (.t 49)⟩,⟨some 51,(some (47,false)),.bin .geq false 3 (.t 48) (.t 50)⟩,⟨some 52,(some (44,true)),.pick (.t 47) (.c (.bool true)) (.t 51)⟩,.z 53 (.pick (.t 44) (.t 52) (.c (.bool false))),.m 54 53,⟨some 55,(some (54,false)),.move (.t 9)⟩,⟨some 56,(some (54,false)),.un .not (.t 55)⟩,⟨some 57,(some (54,false)),.move (.t 56)⟩,⟨some 58,(some (57,true)),.move (.t 8)⟩,⟨some 59,(some (57,true)),.bin .neq true 3 (.t 58) (.c (.i (-1)))⟩,⟨some 60,(some (54,false)),.pick (.t 57) (.t 59) (.c (.bool false))⟩,.z 61 (.pick (.t 54) (.c (.bool true)) (.t 60))]) (.cond (.t 61) (.seq (.ops [.z 4 (.move (.c (.bool false)))]) .ret) .skip))))) (.ops [.z 62 (.bin .add true 3 (.t 34) (.c (.i 1))),.m 34 62]))))))) (.seq (.ops [.z 63 (.loadN 7 (.t 3)),.z 64 (.callV (.c (.fn (.func 170) [] [])) [.t 63]),.z 65 (.mkFunc 190 [] [.t 2]),.z 66 (.callV (.c (.fn (.func 169) [] [])) [.t 64,.t 65]),.m 10 66]) (.seq (.seq (.ops [.f 67 1 3,.l 68 67,.f 69 2 3,.l 70 69,.z 71 (.buildSl 1 2 [(.i 0),(.i 0)] [(0,1,.t 68),(1,1,.t 70)]),.z 72 (.lenSl (.t 71)),.z 73 (.move (.c (.i 0)))]) (.block 2 (.loop (.seq (.ops [.z 74 (.bin .lss false 3 (.t 73) (.t 72))]) (.seq (.cond (.t 74) .skip (.exit 2)) (.seq (.block 3 (.seq (.ops [.z 75 (.ixAddr 1 (.t 71) (.t 73)),.l 76 75,.m 12 76]) (.seq (.ops [.m 77 12,.z 78 (.bin .geq true 3 (.t 77) (.c (.i 0))),.m 79 78,⟨some 80,(some (79,true)),.load1 (.t 2)⟩,⟨some 81,(some (79,true)),.move (.t 12)⟩,⟨some 82,(some (79,true)),.ixAddr 3 (.t 80) (.t 81)⟩,⟨some 83,(some (79,true)),.loadN 3 (.t 82)⟩,⟨some 84,(some (79,true)),.callV (.c (.fn (.func 167) [] [])) [.t 83]⟩,⟨some 85,(some (79,true)),.move (.t 84)⟩,⟨some 86,(some (85,false)),.move (.t 10)⟩,⟨some 87,(some (85,false)),.move (.t 86)⟩,⟨some 88,(some (87,true)),.load1 (.t 2)⟩,⟨some 89,(some (87,true)),.move (.t 12)⟩,⟨some 90,(some (87,true)),.ixAddr 3 (.t 88) (.t 89)⟩,⟨some 91,(some (87,true)),.fieldAddr 1 (.t 90)⟩,⟨some 92,(some (87,true)),.load1 (.t 91)⟩,⟨some 93,(some (87,true)),.un .not (.t 92)⟩,⟨some 94,(some (85,false)),.pick (.t 87) (.t 93) (.c (.bool false))⟩,⟨some 95,(some (79,true)),.pick (.t 85) (.c (.bool true)) (.t 94)⟩,.z 96 (.pick (.t 79) (.t 95) (.c (.bool false)))]) (.cond (.t 96) (.seq (.ops [.z 4 (.move (.c (.bool false)))]) .ret) .skip)))) (.ops [.z 97 (.bin .add true 3 (.t 73) (.c (.i 1))),.m 73 97]))))))) (.seq (.ops [.f 98 2 3,.l 99 98,.z 100 (.bin .lss true 3 (.t 99) (.c (.i 0))),.m 101 100,⟨some 102,(some (101,false)),.fieldAddr 1 (.t 3)⟩,⟨some 103,(some (101,false)),.load1 (.t 102)⟩,⟨some 104,(some (101,false)),.fieldAddr 2 (.t 3)⟩,⟨some 105,(some (101,false)),.load1 (.t 104)⟩,⟨some 106,(some (101,false)),.bin .neq false 3 (.t 103) (.t 105)⟩,.z 107 (.pick (.t 101) (.c (.bool true)) (.t 106)),.m 108 107,⟨some 109,(some (108,true)),.load1 (.t 2)⟩,⟨some 110,(some (108,true)),.loadN 7 (.t 3)⟩,⟨some 111,(some (108,true)),.callV (.c (.fn (.func 191) [] [])) [.t 109,.t 110]⟩,.z 112 (.pick (.t 108) (.t 111) (.c (.bool false))),.m 4 112]) .ret))))))))
theorem r_lengths_one:z0f Tryz.prog 168=some ⟨113,z6j.r,[.tmp 4]⟩:=by kernel_rfl
theorem k_lengths_one:z6j.ok=true:=by kernel_rfl
theorem zsy {G:z03} {p st:Nat} {vs:List Vr} (v:Int) {K:LV→z03→Prop} (hp:G[p]?=some (.cells [.lst (vsC vs) vs.length 3] st)) (hv:inV vs v) (k:K (.bool (gv vs v.toNat).sec) G):z0k Tryz.prog (.fn 190) [.i v,.ptr p 0] G K:=by
 refine z01 r_lengths_one_1 k_lengths_one_1 (by simp) ?_
 obtain⟨a,rfl,ha,ea⟩:=hv.at
 have q1:=zw1 ea
 simp only[Int.toNat_natCast] at q1 k
 simp[z6z,hp,ha]
 simp[z05 q1]
 exact k
theorem zi6 (vs:List Vr) (o:Ko):FnS Tryz.prog 168 [.lst (vsC vs) vs.length 3,.agg o.f] (.bool (oneB vs o)) []:=by
 refine FnS.val rfl (z01 r_lengths_one k_lengths_one (by simp) ?_)
 have hC:o.f=[.i o.kind,.i o.d,.i o.e,.i o.a,.i o.b,.i o.c,.u o.imm]:=rfl
 by_cases h17:o.kind=17
 ·simp[z6j,hC,h17]
  have hf:=za8 (vsC vs) vs.length o
  rw[hC,h17] at hf
  refine z02 hf (bors_self _ (by simp[dats,LV.dat,z1f])) ?_
  simp[oneB,h17]
 simp[z6j,hC,h17]
 refine z02 (zes o.kind) (by simp) ?_
 cases hs:z1v o.kind with
 | none=>simp[oneB,h17,hs]
 | some s =>
 simp
 rw[←hC]
 refine z02 (zdq o) (bors_self _ rfl) ?_
 cases hn:numB o with
 | false=>simp[oneB,h17,hs,hn]
 | true =>
 simp[hC]
 rw[←hC]
 refine z02 (z9j o) (bors_self _ rfl) ?_
 have hs32:=zve hs
 simp
 refine z0m (fun ρ D G N=>∃ i:Nat,D=[]∧G=[.cells [.lst (vsC vs) vs.length 3] 0,.cells o.f 0]∧N+i=5∧lk ρ 2=.ptr 0 0∧lk ρ 3=.ptr 1 0∧lk ρ 5=.i s∧lk ρ 33=.agg ((ptL o).map .i)∧lk ρ 34=.i i∧∀ j,j < i→z3f vs.length s j (gd (ptL o) j)=true) (N:=5) ⟨0,by simp[ptL]⟩ ?_
 rintro N ρ D G ⟨i,rfl,rfl,hN,h2,h3,h5,h33,h34,hp⟩ Nx hNx
 by_cases hi:5≤i
 case neg =>
  have g:(i:Int) < 5:=by omega
  have g2:i < 5:=by omega
  have hg:=za4 (f:=LV.i) (zal (l:=ptL o) (u:=i) g2)
  have good:z3f vs.length s i (gd (ptL o) i)=true→∀ j,j < i+1→z3f vs.length s j (gd (ptL o) j)=true:=fun h j hj=>by
   by_cases e:j=i
   ·rw[e]; exact h
   ·exact hp j (by omega)
  have bad:z3f vs.length s i (gd (ptL o) i)=false→oneB vs o=false:=fun h=>by
   simp[oneB,h17,hs,zti g2 h]
  have pb:=bit_test s i
  generalize gd (ptL o) i=v at *
  have e0:0≤(s:Int) / 2 ^ i:=Int.ediv_nonneg (by omega) (Int.pow_nonneg (by omega))
  have e1:(s:Int) / 2 ^ i < 9223372036854775808:=Int.lt_of_le_of_lt (Int.ediv_le_self _ (by omega)) (by omega)
  have em:max ((s:Int) / 2 ^ i) 0=(s:Int) / 2 ^ i:=by omega
  simp[h2,h3,h5,h33,h34,g,z05 hg,em,e0,e1,pb]
  refine⟨by omega,fun hb=>⟨fun v0=>?_,fun v0=>⟨fun v1=>?_,fun v1=>?_⟩⟩,fun hb=>?_⟩
  ·exact bad (by simp[z3f,hb,z6q]; omega)
  ·exact bad (by simp[z3f,hb,z6q]; omega)
  ·simp only[hb,zk0]
   exact⟨by omega,hNx _ _ _ ⟨N - 1,by omega,i+1,rfl,rfl,by omega,by simp[h2],by simp[h3],by simp[h5],by simp[h33],by simp,good (by simp[z3f,hb,z6q]; omega)⟩⟩
  ·simp only[hb,zff]
   exact⟨fun hv=>⟨by omega,hNx _ _ _ ⟨N - 1,by omega,i+1,rfl,rfl,by omega,by simp[h2],by simp[h3],by simp[h5],by simp[h33],by simp,good (by simp[z3f,hb,hv])⟩⟩,fun hv=>bad (by simp[z3f,hb,hv])⟩
 have hp5:z76 vs.length s o=true:=zrq fun j hj=>hp j (by omega)
 have hin:=zpj hs hp5
 have g:¬ (i:Int) < 5:=by omega
 simp[h2,h3,h33,h34,g,hC]
 rw[←hC]
 refine z1p (z9i o hin.swap) rfl ?_
 simp
 have htl:(z34 o).length≤9223372036854775807:=by
  have h1:([o.a,o.b,o.c].filter fun v=>!decide (v < 0)).length≤3:=List.length_filter_le _ _
  unfold z34
  split <;> simp at h1 ⊢ <;> omega
 rw[h2]
 refine z68 (p:=fun v=>(gv vs v.toNat).sec) htl (fun v hv K' k=>zsy v rfl (hin.takes v hv) k) ?_
 rw[show (z34 o).any (fun v=>(gv vs v.toNat).sec)=secB vs o from rfl]
 simp[h2,h3,hC]
 refine z0m (fun ρ D G N=>∃ i:Nat,D=[]∧G=[.cells [.lst (vsC vs) vs.length 3] 0,.cells o.f 0,.dyn ([o.d,o.e].map .i) 2 1 0 0]∧N+i=2∧lk ρ 2=.ptr 0 0∧lk ρ 3=.ptr 1 0∧lk ρ 10=.bool (secB vs o)∧lk ρ 71=.dy 2 0∧lk ρ 72=.i 2∧lk ρ 73=.i i∧∀ j,j < i→zb5 vs (secB vs o) (gd [o.d,o.e] j)=true) (N:=2) ⟨0,by simp[h2,h3,hC]⟩ ?_
 rintro N ρ D G ⟨i,rfl,rfl,hN,h2,h3,h10,h71,h72,h73,hp⟩ Nx hNx
 by_cases hi:2≤i
 case neg =>
  have g:(i:Int) < 2:=by omega
  have g2:i < 2:=by omega
  have hg:=za4 (f:=LV.i) (zal (l:=[o.d,o.e]) (u:=i) g2)
  have good:zb5 vs (secB vs o) (gd [o.d,o.e] i)=true→∀ j,j < i+1→zb5 vs (secB vs o) (gd [o.d,o.e] j)=true:=fun h j hj=>by
   by_cases e:j=i
   ·rw[e]; exact h
   ·exact hp j (by omega)
  have bad:zb5 vs (secB vs o) (gd [o.d,o.e] i)=false→oneB vs o=false:=fun h=>by
   have hi2:i=0∨i=1:=by omega
   rcases hi2 with rfl | rfl
   ·have h:zb5 vs (secB vs o) o.d=false:=h
    simp[oneB,h17,hs,h]
   ·have h:zb5 vs (secB vs o) o.e=false:=h
    simp[oneB,h17,hs,h]
  have hin2:gd [o.d,o.e] i=-1∨inV vs (gd [o.d,o.e] i):=by
   have hi2:i=0∨i=1:=by omega
   rcases hi2 with rfl | rfl
   ·exact hin.d
   ·exact hin.e
  generalize gd [o.d,o.e] i=v at *
  simp only[List.map_cons,List.map_nil] at hg
  rcases hin2 with rfl | hv
  ·simp[h2,h3,h10,h71,h72,h73,g,z05 hg]
   exact⟨by omega,hNx _ _ _ ⟨N - 1,by omega,i+1,rfl,rfl,by omega,by simp[h2],by simp[h3],by simp[h10],by simp[h71],by simp[h72],by simp,good (by simp[zb5])⟩⟩
  ·obtain⟨k,rfl,hk,ek⟩:=hv.at
   have q3:=zcm ek
   have q1:=zw1 ek
   have hq:=zsl hk
   simp only[Int.toNat_natCast] at q1 q3
   simp[h2,h3,h10,h71,h72,h73,g,z05 hg,hk,q3,hq]
   refine z02 (z9h (gv vs k)) (bors_self _ rfl) ?_
   cases hgv:z2v (gv vs k) with
   | true =>
    simp
    exact bad (by simp[zb5,hgv])
   | false =>
    cases hsec:secB vs o with
    | false =>
     simp[h2,h10,h73,hsec]
     exact⟨by omega,hNx _ _ _ ⟨N - 1,by omega,i+1,rfl,rfl,by omega,by simp[h2],by simp[h3],by simp[h10,hsec],by simp[h71],by simp[h72],by simp,good (by simp[zb5,hgv,hsec])⟩⟩
    | true =>
     cases hs1:(gv vs k).sec with
     | false =>
      simp[h2,h10,h73,hsec,hk,z05 q1,hs1]
      exact bad (by simp[zb5,hgv,hsec,hs1])
     | true =>
      simp[h2,h10,h73,hsec,hk,z05 q1,hs1]
      exact⟨by omega,hNx _ _ _ ⟨N - 1,by omega,i+1,rfl,rfl,by omega,by simp[h2],by simp[h3],by simp[h10,hsec],by simp[h71],by simp[h72],by simp,good (by simp[zb5,hgv,hsec,hs1])⟩⟩
 have g:¬ (i:Int) < 2:=by omega
 have od:zb5 vs (secB vs o) o.d=true:=hp 0 (by omega)
 have oe:zb5 vs (secB vs o) o.e=true:=hp 1 (by omega)
 by_cases e0:o.e < 0
 ·simp[h2,h3,h71,h72,h73,g,hC,e0]
  rw[←hC]
  refine z02 (z9k vs o hin.alike) (bors_self _ (by simp[dats,LV.dat,z1f,hC])) ?_
  simp[oneB,h17,hs,hn,hp5,od,oe,e0]
 ·by_cases e1:o.d=o.e
  ·simp[h2,h3,h71,h72,h73,g,hC,e0,e1]
   simp[oneB,h17,hs,e0,e1]
  ·simp[h2,h3,h71,h72,h73,g,hC,e0,e1]
   rw[←hC]
   refine z02 (z9k vs o hin.alike) (bors_self _ (by simp[dats,LV.dat,z1f,hC])) ?_
   simp[oneB,h17,hs,hn,hp5,od,oe,e0,e1]
end Go.Proofs.YtodjkjimaheggaaGreat
