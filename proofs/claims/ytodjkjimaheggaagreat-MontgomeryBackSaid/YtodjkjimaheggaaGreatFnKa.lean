/- Kernels: shapes, numbers, needs; rows looked through by a function. -/
import Derived.Test.YtodjkjimaheggaaGreatSvG3

import Derived.Test.YtodjkjimaheggaaGreatProg
import Derived.KernelRfl
namespace Go.Proofs.YtodjkjimaheggaaGreat
open Go.Sv
set_option linter.unusedSimpArgs false
set_option maxRecDepth 10000
def z0e:LC:=(.seq (.ops [.z 2 (.move (.c (.i 0))),.z 3 (.move (.c (.bool false)))]) (.seq (.seq (.ops [.m 4 0]) (.block 0 (.seq (.ops [.z 6 (.bin .eql true 3 (.t 4) (.c (.i 1))),.m 5 6]) (.cond (.t 5) (.seq (.ops [.z 2 (.move (.c (.i 1))),.z 3 (.move (.c (.bool true)))]) .ret) (.seq (.ops [.z 8 (.bin .eql true 3 (.t 4) (.c (.i 2))),.m 7 8]) (.cond (.t 7) (.seq (.ops [.z 2 (.move (.c (.i 5))),.z 3 (.move (.c (.bool true)))]) .ret) (.seq (.seq (.ops [.z 10 (.bin .eql true 3 (.t 4) (.c (.i 3))),.m 9 10]) (.cond (.t 9) .skip (.seq (.ops [.z 11 (.bin .eql true 3 (.t 4) (.c (.i 4))),.m 9 11]) (.cond (.t 9) .skip (.seq (.ops [.z 12 (.bin .eql true 3 (.t 4) (.c (.i 5))),.m 9 12]) (.cond (.t 9) .skip (.seq (.ops [.z 13 (.bin .eql true 3 (.t 4) (.c (.i 6))),.m 9 13]) (.cond (.t 9) .skip (.ops [.z 14 (.bin .eql true 3 (.t 4) (.c (.i 7))),.m 9 14]))))))))) (.cond (.t 9) (.seq (.ops [.z 2 (.move (.c (.i 13))),.z 3 (.move (.c (.bool true)))]) .ret) (.seq (.seq (.ops [.z 16 (.bin .eql true 3 (.t 4) (.c (.i 8))),.m 15 16]) (.cond (.t 15) .skip (.seq (.ops [.z 17 (.bin .eql true 3 (.t 4) (.c (.i 10))),.m 15 17]) (.cond (.t 15) .skip (.seq (.ops [.z 18 (.bin .eql true 3 (.t 4) (.c (.i 11))),.m 15 18]) (.cond (.t 15) .skip (.seq (.ops [.z 19 (.bin .eql true 3 (.t 4) (.c (.i 12))),.m 15 19]) (.cond (.t 15) .skip (.ops [.z 20 (.bin .eql true 3 (.t 4) (.c (.i 13))),.m 15 20]))))))))) (.cond (.t 15) (.seq (.ops [.z 2 (.move (.c (.i 29))),.z 3 (.move (.c (.bool true)))]) .ret) (.seq (.ops [.z 22 (.bin .eql true 3 (.t 4) (.c (.i 9))),.m 21 22]) (.cond (.t 21) (.seq (.ops [.z 2 (.move (.c (.i 21))),.z 3 (.move (.c (.bool true)))]) .ret) (.seq (.ops [.z 24 (.bin .eql true 3 (.t 4) (.c (.i 14))),.m 23 24]) (.cond (.t 23) (.seq (.ops [.z 2 (.move (.c (.i 19))),.z 3 (.move (.c (.bool true)))]) .ret) (.seq (.seq (.ops [.z 26 (.bin .eql true 3 (.t 4) (.c (.i 15))),.m 25 26]) (.cond (.t 25) .skip (.ops [.z 27 (.bin .eql true 3 (.t 4) (.c (.i 16))),.m 25 27]))) (.cond (.t 25) (.seq (.ops [.z 2 (.move (.c (.i 0))),.z 3 (.move (.c (.bool true)))]) .ret) .skip)))))))))))))))) (.seq (.ops [.z 2 (.move (.c (.i 0))),.z 3 (.move (.c (.bool false)))]) .ret)))
theorem r_lengths_shape:z0f Tryz.prog 187=some ⟨28,z0e.r,[.tmp 2,.tmp 3]⟩:=by kernel_rfl
theorem k_lengths_shape:z0e.ok=true:=by kernel_rfl
def z28:LC:=(.seq (.ops [.z 1 (.box (.t 0)),.z 2 (.move (.c (.bool false)))]) (.seq (.seq (.ops [.f 3 0 1,.l 4 3]) (.block 0 (.seq (.ops [.z 6 (.bin .eql true 3 (.t 4) (.c (.i 1))),.m 5 6]) (.cond (.t 5) (.seq (.ops [.z 2 (.move (.c (.bool true)))]) .ret) (.seq (.ops [.z 8 (.bin .eql true 3 (.t 4) (.c (.i 13))),.m 7 8]) (.cond (.t 7) (.seq (.ops [.f 9 6 1,.l 10 9,.z 11 (.bin .geq true 23 (.t 10) (.c (.u 1))),.m 12 11,⟨some 13,(some (12,true)),.fieldAddr 6 (.t 1)⟩,⟨some 14,(some (12,true)),.load1 (.t 13)⟩,⟨some 15,(some (12,true)),.bin .leq true 23 (.t 14) (.c (.u 6))⟩,.z 16 (.pick (.t 12) (.t 15) (.c (.bool false))),.m 2 16]) .ret) (.seq (.ops [.z 18 (.bin .eql true 3 (.t 4) (.c (.i 15))),.m 17 18]) (.cond (.t 17) (.seq (.ops [.f 19 6 1,.l 20 19,.z 21 (.bin .geq true 23 (.t 20) (.c (.u 1))),.m 22 21,⟨some 23,(some (22,true)),.fieldAddr 6 (.t 1)⟩,⟨some 24,(some (22,true)),.load1 (.t 23)⟩,⟨some 25,(some (22,true)),.bin .leq true 23 (.t 24) (.c (.u 4096))⟩,.z 26 (.pick (.t 22) (.t 25) (.c (.bool false))),.m 2 26]) .ret) .skip)))))))) (.seq (.ops [.f 27 6 1,.l 28 27,.z 29 (.bin .eql true 23 (.t 28) (.c (.u 0))),.m 2 29]) .ret)))
theorem r_lengths_number:z0f Tryz.prog 188=some ⟨30,z28.r,[.tmp 2]⟩:=by kernel_rfl
theorem k_lengths_number:z28.ok=true:=by kernel_rfl
def z6r:LC:=(.seq (.ops [.z 1 (.box (.t 0)),.z 2 (.alloc [(.i 0),(.i 0),(.i 0),(.i 0),(.i 0)])]) (.seq (.ops [.f 3 1 1,.l 4 3,.f 5 2 1,.l 6 5,.f 7 3 1,.l 8 7,.f 9 4 1,.l 10 9,.f 11 5 1,.l 12 11,.z 13 (.build [(.i 0),(.i 0),(.i 0),(.i 0),(.i 0)] [(0,1,.t 4),(1,1,.t 6),(2,1,.t 8),(3,1,.t 10),(4,1,.t 12)]),⟨none,none,.store 5 (.t 2) (.t 13)⟩]) .ret))
theorem r_lengths_parts:z0f Tryz.prog 189=some ⟨14,z6r.r,[.cellN 2 5]⟩:=by kernel_rfl
theorem k_lengths_parts:z6r.ok=true:=by kernel_rfl
def z73:LC:=(.seq (.ops [.z 1 (.box (.t 0)),.z 2 (.move (.c (.bool false)))]) (.seq (.ops [.f 3 2 1,.l 4 3,.z 5 (.bin .eql true 3 (.t 4) (.c (.i 1))),.m 6 5,⟨some 7,(some (6,false)),.fieldAddr 2 (.t 1)⟩,⟨some 8,(some (6,false)),.load1 (.t 7)⟩,⟨some 9,(some (6,false)),.bin .eql true 3 (.t 8) (.c (.i 2))⟩,.z 10 (.pick (.t 6) (.c (.bool true)) (.t 9)),.m 2 10]) .ret))
theorem r_lengths_given:z0f Tryz.prog 167=some ⟨11,z73.r,[.tmp 2]⟩:=by kernel_rfl
theorem k_lengths_given:z73.ok=true:=by kernel_rfl
def z46:LC:=(.seq (.ops [.z 3 (.move (.c (.bool false)))]) (.seq (.ops [.m 4 0,.z 5 (.bin .geq true 3 (.t 4) (.c (.i 0))),.m 6 5,⟨some 7,(some (6,true)),.move (.t 0)⟩,⟨some 8,(some (6,true)),.load1 (.t 1)⟩,⟨some 9,(some (6,true)),.lenSl (.t 8)⟩,⟨some 10,(some (6,true)),.bin .lss false 3 (.t 7) (.t 9)⟩,.z 11 (.pick (.t 6) (.t 10) (.c (.bool false))),.m 3 11]) .ret))
theorem r_lengths_need_1:z0f Tryz.prog 186=some ⟨12,z46.r,[.tmp 3]⟩:=by kernel_rfl
theorem k_lengths_need_1:z46.ok=true:=by kernel_rfl
def z35:LC:=(.seq (.ops [.z 2 (.box (.t 0)),.z 3 (.box (.t 1)),.z 4 (.move (.c (.bool false)))]) (.seq (.ops [.z 6 (.mkFunc 186 [] [.t 2]),.m 5 6]) (.seq (.seq (.ops [.f 7 1 3,.l 8 7,.z 9 (.bin .neq true 3 (.t 8) (.c (.i (-1)))),.m 10 9,⟨some 11,(some (10,false)),.fieldAddr 2 (.t 3)⟩,⟨some 12,(some (10,false)),.load1 (.t 11)⟩,⟨some 13,(some (10,false)),.bin .neq true 3 (.t 12) (.c (.i (-1)))⟩,.z 14 (.pick (.t 10) (.c (.bool true)) (.t 13)),.m 15 14,⟨some 16,(some (15,false)),.fieldAddr 5 (.t 3)⟩,⟨some 17,(some (15,false)),.load1 (.t 16)⟩,⟨some 18,(some (15,false)),.bin .neq true 3 (.t 17) (.c (.i (-1)))⟩,.z 19 (.pick (.t 15) (.c (.bool true)) (.t 18)),.m 20 19,⟨some 21,(some (20,false)),.move (.t 5)⟩,⟨some 22,(some (20,false)),.fieldAddr 3 (.t 3)⟩,⟨some 23,(some (20,false)),.load1 (.t 22)⟩,⟨some 24,(some (20,false)),.callV (.t 21) [.t 23]⟩,⟨some 25,(some (20,false)),.un .not (.t 24)⟩,.z 26 (.pick (.t 20) (.c (.bool true)) (.t 25))]) (.cond (.t 26) (.seq (.ops [.z 4 (.move (.c (.bool false)))]) .ret) .skip)) (.seq (.seq (.ops [.f 27 6 3,.l 28 27]) (.block 0 (.seq (.ops [.z 30 (.bin .eql true 23 (.t 28) (.c (.u 2))),.m 29 30]) (.cond (.t 29) (.seq (.ops [.m 31 5,.f 32 4 3,.l 33 32,.z 34 (.callV (.t 31) [.t 33]),.m 4 34]) .ret) (.seq (.seq (.ops [.z 36 (.bin .eql true 23 (.t 28) (.c (.u 1))),.m 35 36]) (.cond (.t 35) .skip (.ops [.z 37 (.bin .eql true 23 (.t 28) (.c (.u 3))),.m 35 37]))) (.cond (.t 35) (.seq (.ops [.f 38 4 3,.l 39 38,.z 40 (.bin .eql true 3 (.t 39) (.c (.i (-1)))),.m 4 40]) .ret) .skip)))))) (.seq (.ops [.z 4 (.move (.c (.bool false)))]) .ret)))))
theorem r_lengths_need:z0f Tryz.prog 166=some ⟨41,z35.r,[.tmp 4]⟩:=by kernel_rfl
theorem k_lengths_need:z35.ok=true:=by kernel_rfl
def z24:LC:=(.seq (.ops [.z 4 (.move (.c (.i 0)))]) (.seq (.seq (.ops [.m 6 0,.z 7 (.lenSl (.t 6)),.z 8 (.move (.c (.i 0)))]) (.block 0 (.loop (.seq (.ops [.z 9 (.bin .lss false 3 (.t 8) (.t 7))]) (.seq (.cond (.t 9) .skip (.exit 0)) (.seq (.block 1 (.seq (.ops [.m 10 8,.m 5 10]) (.seq (.ops [.m 11 1,.m 12 0,.m 13 5,.z 14 (.ixAddr 1 (.t 12) (.t 13)),.l 15 14,.z 16 (.callV (.t 11) [.t 15])]) (.cond (.t 16) (.seq (.ops [.m 17 5,.m 4 17]) .ret) .skip)))) (.ops [.z 18 (.bin .add true 3 (.t 8) (.c (.i 1))),.m 8 18]))))))) (.seq (.ops [.z 4 (.move (.c (.i (-1))))]) .ret)))
theorem r_slices_IndexFunc_int_int:z0f Tryz.prog 192=some ⟨19,z24.r,[.tmp 4]⟩:=by kernel_rfl
theorem k_slices_IndexFunc_int_int:z24.ok=true:=by kernel_rfl
def z1q:LC:=(.seq (.ops [.z 4 (.move (.c (.bool false)))]) (.seq (.ops [.m 5 0,.m 6 1,.z 7 (.callV (.c (.fn (.func 192) [] [])) [.t 5,.t 6]),.z 8 (.bin .geq true 3 (.t 7) (.c (.i 0))),.m 4 8]) .ret))
theorem r_slices_ContainsFunc_int_int:z0f Tryz.prog 169=some ⟨9,z1q.r,[.tmp 4]⟩:=by kernel_rfl
theorem k_slices_ContainsFunc_int_int:z1q.ok=true:=by kernel_rfl
theorem eqbP (a b:Bool):eqA Tryz.prog false 4 (.bool a) (.bool b)=some (a==b):=by cases a <;> cases b <;> kernel_rfl
theorem zes (k:Int):FnS Tryz.prog 187 [.i k] (.tup [.i (((z1v k).getD 0:Nat):Int),.bool (z1v k).isSome]) []:=by
 refine FnS.val rfl (z01 r_lengths_shape k_lengths_shape (by simp) ?_)
 by_cases h1:k=1; · subst h1; simp[z0e,z1v]
 by_cases h2:k=2; · subst h2; simp[z0e,z1v]
 by_cases h3:k=3; · subst h3; simp[z0e,z1v]
 by_cases h4:k=4; · subst h4; simp[z0e,z1v]
 by_cases h5:k=5; · subst h5; simp[z0e,z1v]
 by_cases h6:k=6; · subst h6; simp[z0e,z1v]
 by_cases h7:k=7; · subst h7; simp[z0e,z1v]
 by_cases h8:k=8; · subst h8; simp[z0e,z1v]
 by_cases h9:k=9; · subst h9; simp[z0e,z1v]
 by_cases h10:k=10; · subst h10; simp[z0e,z1v]
 by_cases h11:k=11; · subst h11; simp[z0e,z1v]
 by_cases h12:k=12; · subst h12; simp[z0e,z1v]
 by_cases h13:k=13; · subst h13; simp[z0e,z1v]
 by_cases h14:k=14; · subst h14; simp[z0e,z1v]
 by_cases h15:k=15; · subst h15; simp[z0e,z1v]
 by_cases h16:k=16; · subst h16; simp[z0e,z1v]
 simp[z0e,z1v,h1,h2,h3,h4,h5,h6,h7,h8,h9,h10,h11,h12,h13,h14,h15,h16]
theorem zdq (o:Ko):FnS Tryz.prog 188 [.agg o.f] (.bool (numB o)) []:=by
 refine FnS.val rfl (z01 r_lengths_number k_lengths_number (by simp) ?_)
 by_cases h1:o.kind=1; · simp[z28,Ko.f,numB,h1]
 by_cases h2:o.kind=13
 ·by_cases g:1≤o.imm <;> simp[z28,Ko.f,numB,h1,h2,g]
 by_cases h3:o.kind=15
 ·by_cases g:1≤o.imm <;> simp[z28,Ko.f,numB,h1,h2,h3,g]
 simp[z28,Ko.f,numB,h1,h2,h3]
theorem z9j (o:Ko):FnS Tryz.prog 189 [.agg o.f] (.agg [.i o.d,.i o.e,.i o.a,.i o.b,.i o.c]) []:=by
 refine FnS.val rfl (z01 r_lengths_parts k_lengths_parts (by simp) ?_)
 simp[z6r,Ko.f]
theorem z9h (v:Vr):FnS Tryz.prog 167 [.agg v.f] (.bool (z2v v)) []:=by
 refine FnS.val rfl (z01 r_lengths_given k_lengths_given (by simp) ?_)
 by_cases h1:v.mode=1 <;> simp[z73,Vr.f,z2v,h1]
theorem zid {G:z03} {p n st:Nat} {c:List LV} (v:Int) {K:LV→z03→Prop} (hg:G[p]?=some (.cells [.lst c n 3] st)) (k:K (.bool (z6q n v)) G):z0k Tryz.prog (.fn 186) [.i v,.ptr p 0] G K:=by
 refine z01 r_lengths_need_1 k_lengths_need_1 (by simp) ?_
 by_cases h1:0≤v
 ·by_cases h2:v < n <;> simp[z46,hg,z6q,h1,h2] at k ⊢ <;> exact k
 ·simp[z46,hg,z6q,h1] at k ⊢; exact k
theorem za8 (c:List LV) (n:Nat) (o:Ko):FnS Tryz.prog 166 [.lst c n 3,.agg o.f] (.bool (zb7 n o)) []:=by
 refine FnS.val rfl (z01 r_lengths_need k_lengths_need (by simp) ?_)
 by_cases h1:o.d=-1
 case neg=>simp[z35,Ko.f,zb7,h1]
 by_cases h2:o.e=-1
 case neg=>simp[z35,Ko.f,zb7,h1,h2]
 by_cases h3:o.c=-1
 case neg=>simp[z35,Ko.f,zb7,h1,h2,h3]
 simp[z35,Ko.f,h1,h2,h3]
 refine zid o.a rfl ?_
 cases ha:z6q n o.a with
 | false=>simp[zb7,ha]
 | true =>
  by_cases i2:o.imm=2
  ·simp[i2]
   refine zid o.b rfl ?_
   simp[zb7,h1,h2,h3,ha,i2]
  by_cases i1:o.imm=1
  ·simp[zb7,h1,h2,h3,ha,i2,i1]
  by_cases i3:o.imm=3
  ·simp[zb7,h1,h2,h3,ha,i2,i1,i3]
  simp[zb7,h1,h2,h3,ha,i2,i1,i3]
theorem zcx {G:z03} {l:List Int} {f:Nat} {a b:List LV} {p:Int→Bool} {K:LV→z03→Prop} (hl:l.length≤9223372036854775807)
  (hf:∀ v∈l,∀ K':LV→z03→Prop,K' (.bool (p v)) G→z0k Tryz.prog (.fn f) (a++[.i v]++b) G K') (k:K (.i (ixZ p l)) G):z0k Tryz.prog (.fn 192) [.lst (l.map .i) l.length 1,.fn (.func f) a b] G K:=by
 refine z01 r_slices_IndexFunc_int_int k_slices_IndexFunc_int_int (by simp) ?_
 simp[z24]
 refine z0m (fun ρ D G' N=>∃ i:Nat,D=[]∧G'=G∧N+i=l.length∧lk ρ 0=.lst (l.map .i) l.length 1∧lk ρ 1=.fn (.func f) a b∧lk ρ 7=.i l.length∧lk ρ 8=.i i∧∀ j b,j < i→l[j]?=some b→p b=false) (N:=l.length) ⟨0,by simp⟩ ?_
 rintro N ρ D G' ⟨i,rfl,rfl,hN,h0,h1,h7,h8,hn⟩ Nx hNx
 by_cases hi:l.length≤i
 ·have g:¬ i < l.length:=by omega
  simp[h0,h1,h7,h8,g]
  rw[←zql hi hn]
  exact k
 ·have g:i < l.length:=by omega
  have hg:=List.getElem?_eq_getElem g
  simp[h0,h1,h7,h8,g]
  simp[z05 (za4 (f:=LV.i) hg)]
  have hh:=hf l[i] (List.getElem_mem g)
  simp only[List.append_assoc,List.singleton_append] at hh
  refine hh _ ?_
  cases hb:p l[i] with
  | true =>
   simp
   rw[←ixZ_at hg hb hn]
   exact k
  | false =>
   simp[h8]
   refine⟨by omega,hNx _ _ _ ⟨N - 1,by omega,i+1,rfl,rfl,by omega,by simp[h0],by simp[h1],by simp[h7],by simp,fun j b hj hjb=>?_⟩⟩
   by_cases e:j=i
   ·subst e; rw[hg] at hjb; cases hjb; exact hb
   ·exact hn j b (by omega) hjb
theorem z68 {G:z03} {l:List Int} {f:Nat} {a b:List LV} {p:Int→Bool} {K:LV→z03→Prop} (hl:l.length≤9223372036854775807)
  (hf:∀ v∈l,∀ K':LV→z03→Prop,K' (.bool (p v)) G→z0k Tryz.prog (.fn f) (a++[.i v]++b) G K') (k:K (.bool (l.any p)) G):z0k Tryz.prog (.fn 169) [.lst (l.map .i) l.length 1,.fn (.func f) a b] G K:=by
 refine z01 r_slices_ContainsFunc_int_int k_slices_ContainsFunc_int_int (by simp) ?_
 simp[z1q]
 refine zcx hl hf ?_
 simp
 rw[zv7]
 exact k
end Go.Proofs.YtodjkjimaheggaaGreat
