/- Kernels: what an operation takes. -/
import Derived.Test.YtodjkjimaheggaaGreatFnKb
namespace Go.Proofs.YtodjkjimaheggaaGreat
open Go.Sv
set_option linter.unusedSimpArgs false
set_option maxRecDepth 10000
def z3a:LC:=(.seq (.ops [.z 2 (.move (.c .nilSl))]) (.seq (.seq (.ops [.m 3 0,.z 4 (.bin .eql true 60 (.t 3) (.c .nilSl))]) (.cond (.t 4) (.seq (.ops [.z 2 (.move (.c .nilSl))]) .ret) .skip)) (.seq (.ops [.z 5 (.buildSl 1 0 [] []),.m 6 0,.z 7 (.appG 1 (.t 5) (.t 6)),.m 2 7]) .ret)))
theorem r_slices_Clone_int_int:z0f Tryz.prog 194=some ⟨8,z3a.r,[.tmp 2]⟩:=by kernel_rfl
theorem k_slices_Clone_int_int:z3a.ok=true:=by kernel_rfl
def z1x:LC:=(.seq (.ops [.z 4 (.move (.c .nilSl))]) (.seq (.ops [.m 8 0,.m 9 1,.z 10 (.callV (.c (.fn (.func 192) [] [])) [.t 8,.t 9]),.m 5 10]) (.seq (.seq (.ops [.m 11 5,.z 12 (.bin .eql true 3 (.t 11) (.c (.i (-1))))]) (.cond (.t 12) (.seq (.ops [.m 13 0,.m 4 13]) .ret) .skip)) (.seq (.seq (.ops [.m 14 5,.z 15 (.bin .add true 3 (.t 14) (.c (.i 1))),.m 6 15]) (.block 0 (.loop (.seq (.seq (.ops [.m 16 6,.m 17 0,.z 18 (.lenSl (.t 17)),.z 19 (.bin .lss false 3 (.t 16) (.t 18))]) (.cond (.t 19) .skip (.exit 0))) (.seq (.block 1 (.seq (.ops [.m 22 0,.m 23 6,.z 24 (.ixAddr 1 (.t 22) (.t 23)),.l 25 24,.m 7 25]) (.seq (.ops [.m 26 1,.m 27 7,.z 28 (.callV (.t 26) [.t 27]),.z 29 (.un .not (.t 28))]) (.cond (.t 29) (.seq (.ops [.m 30 0,.m 31 5,.m 32 7,.z 33 (.ixAddr 1 (.t 30) (.t 31)),⟨none,none,.store 1 (.t 33) (.t 32)⟩]) (.ops [.m 34 5,.z 35 (.bin .add true 3 (.t 34) (.c (.i 1))),.m 5 35])) .skip)))) (.ops [.m 20 6,.z 21 (.bin .add true 3 (.t 20) (.c (.i 1))),.m 6 21])))))) (.seq (.ops [.m 36 0,.m 37 5,.z 38 (.slSl 1 (.t 36) (some (.t 37)) none),⟨none,none,.clear 1 [(.i 0)] (.t 38)⟩]) (.seq (.ops [.m 39 0,.m 40 5,.z 41 (.slSl 1 (.t 39) none (some (.t 40))),.m 4 41]) .ret))))))
theorem r_slices_DeleteFunc_int_int:z0f Tryz.prog 193=some ⟨42,z1x.r,[.tmp 4]⟩:=by kernel_rfl
theorem k_slices_DeleteFunc_int_int:z1x.ok=true:=by kernel_rfl
def z4y:LC:=(.seq (.ops [.z 2 (.move (.c (.bool false)))]) (.seq (.ops [.m 3 0,.z 4 (.bin .lss true 3 (.t 3) (.c (.i 0))),.m 2 4]) .ret))
theorem r_lengths_takes_1:z0f Tryz.prog 195=some ⟨5,z4y.r,[.tmp 2]⟩:=by kernel_rfl
theorem k_lengths_takes_1:z4y.ok=true:=by kernel_rfl
def z6x:LC:=(.seq (.ops [.z 1 (.box (.t 0)),.z 2 (.move (.c .nilSl))]) (.seq (.ops [.z 5 (.loadN 7 (.t 1)),.z 6 (.callV (.c (.fn (.func 189) [] [])) [.t 5]),.z 3 (.alloc [(.i 0),(.i 0),(.i 0),(.i 0),(.i 0)]),⟨none,none,.store 5 (.t 3) (.t 6)⟩]) (.seq (.ops [.z 7 (.slArr 5 1 (.t 3) (some (.c (.i 2))) none),.z 8 (.callV (.c (.fn (.func 194) [] [])) [.t 7]),.z 9 (.callV (.c (.fn (.func 193) [] [])) [.t 8,(.c (.fn (.func 195) [] []))]),.m 4 9]) (.seq (.seq (.ops [.f 10 0 1,.l 11 10,.z 12 (.bin .eql true 3 (.t 11) (.c (.i 14)))]) (.cond (.t 12) (.ops [.m 13 4,.f 14 1 1,.l 15 14,.f 16 2 1,.l 17 16,.z 18 (.buildSl 1 2 [(.i 0),(.i 0)] [(0,1,.t 15),(1,1,.t 17)]),.z 19 (.appG 1 (.t 13) (.t 18)),.m 4 19]) .skip)) (.seq (.ops [.m 20 4,.m 2 20]) .ret)))))
theorem r_lengths_takes:z0f Tryz.prog 170=some ⟨21,z6x.r,[.tmp 2]⟩:=by kernel_rfl
theorem k_lengths_takes:z6x.ok=true:=by kernel_rfl
theorem sl_nil:eqA Tryz.prog true 60 .nilSl .nilSl=some true:=by kernel_rfl
theorem zui {G:z03} {l:List Int} {K:LV→z03→Prop} (hl:l.length≤1048576) (h0:l≠[]) (k:K (.dy G.length 1) (G++[.dyn (l.map .i) l.length 1 1 1])):z0k Tryz.prog (.fn 194) [.lst (l.map .i) l.length 1] G K:=by
 refine z01 r_slices_Clone_int_int k_slices_Clone_int_int (by simp) ?_
 simp[z3a,sl_nil,hl,h0]
 exact k
theorem zjt {l:List Int} {f:Nat} {p:Int→Bool} (hl:l.length≤9223372036854775807)
  (hf:∀ v∈l,FnS Tryz.prog f [.i v] (.bool (p v)) []):FnS Tryz.prog 192 [.lst (l.map .i) l.length 1,.fn (.func f) [] []] (.i (ixZ p l)) [] :=
 FnS.val rfl (zcx hl (fun v hv K' k=>by
  simp only[List.nil_append,List.append_nil]
  exact z02 (hf v hv) (bors_self _ rfl) k) rfl)
theorem zi8 {G:z03} {q k st:Nat} {l:List Int} {f:Nat} {p:Int→Bool} {K:LV→z03→Prop} (hl:l.length≤9223372036854775807) (hq:G[q]?=some (.dyn (l.map .i) l.length 1 k st))
  (hf:∀ v,FnS Tryz.prog f [.i v] (.bool (p v)) []) (k0:l.filter (fun v=>!p v)=l→K (.dy q k) G)
  (k1:∀ (m:Nat) (R:List LV) (st':Nat),m=(l.filter (fun v=>!p v)).length→R.length=l.length→R.take m=(l.filter (fun v=>!p v)).map .i→dats R=true→K (.vw q k 0 m) (G.set q (.dyn R l.length 1 k st'))) :
  z0k Tryz.prog (.fn 193) [.dy q k,.fn (.func f) [] []] G K:=by
 refine z01 r_slices_DeleteFunc_int_int k_slices_DeleteFunc_int_int (by simp) ?_
 have hlt:q < G.length:=(List.getElem?_eq_some_iff.1 hq).1
 have di:∀ l:List Int,dats (l.map .i)=true:=fun l=>zb1 (fun _=>rfl) l
 have hat:∀ ob,(G.set q ob)[q]?=some ob:=fun ob=>List.getElem?_set_self hlt
 have hself:G.set q (.dyn (l.map .i) l.length 1 k st)=G:=zpb hq
 simp[z1x]
 refine z02 (zjt hl fun v _=>hf v) (by simp[bors,bor,LV.dat,dats,hq,di]) ?_
 rcases zw3 p l with ⟨e1,e2⟩ | ⟨i0,e1,hi0,e2⟩
 ·simp[e1]
  exact k0 e2
 have n1:¬ ((i0:Int)=-1):=by omega
 simp[e1,n1]
 refine⟨by omega,?_⟩
 refine z0m (fun ρ D G' N=>∃ (i j:Nat) (c:List Int) (st':Nat),D=[]∧G'=G.set q (.dyn (c.map .i) l.length 1 k st')∧N+j=l.length∧i < j∧j≤l.length∧lk ρ 0=.dy q k∧lk ρ 1=.fn (.func f) [] []∧lk ρ 5=.i i∧lk ρ 6=.i j ∧
   c.length=l.length∧i=((l.take j).filter (fun v=>!p v)).length∧c.take i=(l.take j).filter (fun v=>!p v)∧∀ u,j≤u→gd c u=gd l u)
  (N:=l.length - (i0+1)) ⟨i0,i0+1,l,st,rfl,hself.symm,by omega,by omega,by omega,by simp,by simp,by simp,by simp,rfl,by rw[e2]; simp; omega,e2.symm,fun u _=>rfl⟩ ?_
 rintro N ρ D G' ⟨i,j,c,st',rfl,rfl,hN,hij,hj,h0,h1,h5,h6,hc,hi,ht,hr⟩ Nx hNx
 by_cases g:j < l.length
 ·have g2:i < l.length:=by omega
  have hcj:=za4 (f:=LV.i) (zal (l:=c) (u:=j) (by omega))
  have eg:=hr j (Nat.le_refl _)
  simp[h0,h1,h5,h6,hat,g]
  simp[z05 hcj,h0,h1,h5,h6,hat,g,eg]
  refine z02 (hf (gd l j)) (by simp) ?_
  have fs:=zmx (p:=p) g
  cases hb:p (gd l j) with
  | true =>
   rw[hb] at fs
   simp only[if_true,List.append_nil] at fs
   simp[h6]
   repeat (refine⟨by omega,?_⟩)
   exact hNx _ _ _ ⟨N - 1,by omega,i,j+1,c,st',rfl,rfl,by omega,by omega,by omega,by simp[h0],by simp[h1],by simp[h5],by simp,hc,by rw[fs]; exact hi,by rw[fs]; exact ht,fun u hu=>hr u (by omega)⟩
  | false =>
   rw[hb,if_neg (by simp)] at fs
   simp[h0,h1,h5,h6,hat,g2]
   rw[lay_set _ _ _ (by omega)]
   repeat (refine⟨by omega,?_⟩)
   refine hNx _ _ _ ⟨N - 1,by omega,i+1,j+1,_,_,rfl,rfl,by omega,by omega,by omega,by simp[h0],by simp[h1],by simp,by simp,by simpa using hc,?_,?_,fun u hu=>?_⟩
   ·rw[fs,List.length_append,←hi]; rfl
   ·rw[fs,zka (by omega),ht]
   ·rw[zok (j:=j+1) (by omega) (by omega) u hu,hr u (by omega)]
 ·have ej:j=l.length:=by omega
  subst ej
  rw[List.take_length] at hi ht
  simp[h0,h1,h5,h6,hat]
  repeat (refine⟨by omega,?_⟩)
  refine k1 i _ _ hi ?_ ?_ ?_
  ·rw[zsg (by rw[z77]; simp; omega)]; simp[hc]
  ·rw[lay_take (by simp; omega),←List.map_take,ht]
  ·unfold z0w
   exact dats_app (dats_app (dats_take _ (di c)) (zqa rfl _)) (dats_drop _ (di c))
theorem zrx (v:Int):FnS Tryz.prog 195 [.i v] (.bool (decide (v < 0))) []:=by
 refine FnS.val rfl (z01 r_lengths_takes_1 k_lengths_takes_1 (by simp) ?_)
 simp[z4y]
theorem z9i (o:Ko) (h:o.kind=14→o.a=-1∧o.b=-1):FnV Tryz.prog 170 [.agg o.f] (.lst ((z34 o).map .i) (z34 o).length 1):=by
 have di:∀ l:List Int,dats (l.map .i)=true:=fun l=>zb1 (fun _=>rfl) l
 refine FnV.mk (by simp[LV.dat,di]) (z01 r_lengths_takes k_lengths_takes (by simp) ?_)
 have hC:o.f=[.i o.kind,.i o.d,.i o.e,.i o.a,.i o.b,.i o.c,.u o.imm]:=rfl
 simp[z6x,hC]
 rw[←hC]
 refine z02 (z9j o) (bors_self _ rfl) ?_
 simp
 refine zui (l:=[o.a,o.b,o.c]) (by simp) (by simp) ?_
 simp
 have hlen:([o.a,o.b,o.c].filter fun v=>!decide (v < 0)).length≤3:=List.length_filter_le _ _
 refine zi8 (l:=[o.a,o.b,o.c]) (p:=fun v=>decide (v < 0)) (by simp) rfl zrx (fun hw=>?_) (fun m R st' hm hR ht hd=>?_)
 ·by_cases h14:o.kind=14
  ·have:=List.filter_eq_self.1 hw o.a (by simp)
   rw[(h h14).1] at this; simp at this
  ·have e:z34 o=[o.a,o.b,o.c]:=by unfold z34; rw[hw,if_neg h14]; rfl
   simp[hC,h14,e,borR,bor,dats,LV.dat]
 ·by_cases h14:o.kind=14
  ·have e:z34 o=([o.a,o.b,o.c].filter fun v=>!decide (v < 0))++[o.d,o.e]:=by unfold z34; rw[if_pos h14]
   have hm1:m≤1:=by
    rw[hm,(h h14).1,(h h14).2]
    simp
    by_cases hc:0≤o.c <;> simp[hc]
   have hR3:R.length=3:=hR
   simp[hC,h14,hR3,hm1,dats,LV.dat]
   rw[e]
   have hl2:(([o.a,o.b,o.c].filter fun v=>!decide (v < 0))++[o.d,o.e]).length=m+2:=by rw[List.length_append,←hm]; rfl
   have e2:(([o.a,o.b,o.c].filter fun v=>!decide (v < 0))++[o.d,o.e]).map LV.i=R.take m++[.i o.d,.i o.e]:=by rw[List.map_append,ht]; rfl
   have hl3:(R.take m++[LV.i o.d,LV.i o.e]).length=m+2:=by rw[List.length_append,List.length_take]; simp; omega
   have da:dats (R.take m++[LV.i o.d,LV.i o.e])=true:=dats_app (dats_take _ hd) rfl
   have hll:(z0w R m [.i o.d,.i o.e]).length=3:=by unfold z0w; simp; omega
   rw[e2,hl2]
   refine⟨by omega,⟨_,_,_,⟨?_,rfl,rfl⟩,⟨rfl,rfl,rfl⟩,?_,?_⟩,⟨_,_,_,⟨rfl,rfl,rfl⟩,⟨rfl,rfl,rfl⟩,da⟩⟩
   ·unfold z0w
    rw[Nat.mul_one]
    exact (List.take_left' hl3).symm
   ·rw[hll]; omega
   ·unfold z0w
    exact dats_app (dats_app (dats_take _ hd) rfl) (dats_drop _ hd)
  ·have e:z34 o=[o.a,o.b,o.c].filter fun v=>!decide (v < 0):=by unfold z34; rw[if_neg h14,List.append_nil]
   simp[hC,h14,dats,LV.dat]
   rw[e,←ht,←hm]
   have hR3:R.length=3:=hR
   simp[borR,bor,hd]
   exact⟨_,_,_,⟨by rw[Nat.mul_one],rfl⟩,⟨rfl,rfl,rfl⟩,by rw[hR3]; omega,hd⟩
end Go.Proofs.YtodjkjimaheggaaGreat
