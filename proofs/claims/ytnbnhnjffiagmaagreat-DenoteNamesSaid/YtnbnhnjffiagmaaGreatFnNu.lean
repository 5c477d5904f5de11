/- DenoteNames: what one operation makes. -/
import Derived.Test.YtnbnhnjffiagmaaGreatFnNk
import Derived.Test.YtnbnhnjffiagmaaGreatSvG3



namespace Go.Proofs.YtnbnhnjffiagmaaGreat
open Go.Sv
set_option linter.unusedSimpArgs false
set_option maxRecDepth 10000
def c_law20_all:LC:=(.seq (.ops [.z 4 (.box (.t 0)),.z 8 (.move (.c (.u 0))),.z 9 (.move (.c (.i 0)))]) (.seq (.ops [.z 14 (.build [(.i 0),(.bool false),(.i 0)] [(0,1,.c (.i 1)),(1,1,(.c (.bool true))),(2,1,.c (.i 2))]),.z 10 (.alloc [(.i 0),(.bool false),(.i 0)]),⟨none,none,.store 3 (.t 10) (.t 14)⟩]) (.seq (.ops [.z 15 (.loadN 3 (.t 10)),.z 16 (.loadN 3 (.t 10)),.z 17 (.loadN 3 (.t 10)),.z 18 (.build [(.i 0),(.bool false),(.i 0)] [(0,1,.c (.i 1)),(1,1,(.c (.bool true))),(2,1,.c (.i 3))]),.z 19 (.buildSl 3 4 [(.i 0),(.bool false),(.i 0),(.i 0),(.bool false),(.i 0),(.i 0),(.bool false),(.i 0),(.i 0),(.bool false),(.i 0)] [(0,3,.t 15),(3,3,.t 16),(6,3,.t 17),(9,3,.t 18)]),.z 20 (.loadN 7 (.t 4)),.z 21 (.buildSl 7 1 [(.i 0),(.i 0),(.i 0),(.i 0),(.i 0),(.i 0),(.u 0)] [(0,7,.t 20)]),.z 22 (.build [.nilSl,.nilSl,.nilSl] [(0,1,.t 19),(1,1,.t 21)]),.z 11 (.alloc [.nilSl,.nilSl,.nilSl]),⟨none,none,.store 3 (.t 11) (.t 22)⟩]) (.seq (.ops [.z 24 (.loadN 3 (.t 11)),.m 25 1,.z 26 (.buildSl 1 1 [(.u 0)] [(0,1,.t 25)]),.m 27 2,.z 28 (.buildSl 1 1 [(.u 0)] [(0,1,.t 27)]),.m 29 3,.z 30 (.buildSl 1 1 [(.u 0)] [(0,1,.t 29)]),.z 31 (.buildSl 1 3 [.nilSl,.nilSl,.nilSl] [(0,1,.t 26),(1,1,.t 28),(2,1,.t 30)]),.z 32 (.callV (.c (.fn (.func 11) [] [])) [.t 24,.t 31]),.m 23 32,.z 33 (.extract 0 (.t 23)),.z 34 (.extract 1 (.t 23)),.m 12 33,.m 13 34]) (.seq (.seq (.ops [.m 35 13,.z 36 (.bin .neq true 32 (.t 35) (.c (.i 0))),.m 37 36,⟨some 38,(some (37,false)),.move (.t 12)⟩,⟨some 39,(some (37,false)),.lenSl (.t 38)⟩,⟨some 40,(some (37,false)),.bin .neq true 3 (.t 39) (.c (.i 1))⟩,.z 41 (.pick (.t 37) (.c (.bool true)) (.t 40))]) (.cond (.t 41) (.seq (.ops [.m 42 13,.z 8 (.move (.c (.u 0))),.m 9 42]) .ret) .skip)) (.seq (.seq (.ops [.m 43 12,.z 44 (.ixAddr 1 (.t 43) (.c (.i 0))),.l 45 44,.z 46 (.lenSl (.t 45)),.z 47 (.bin .eql true 3 (.t 46) (.c (.i 0)))]) (.cond (.t 47) (.seq (.ops [.m 48 13,.z 8 (.move (.c (.u 0))),.m 9 48]) .ret) .skip)) (.seq (.ops [.m 49 12,.z 50 (.ixAddr 1 (.t 49) (.c (.i 0))),.l 51 50,.z 52 (.ixAddr 1 (.t 51) (.c (.i 0))),.l 53 52,.m 54 13,.m 8 53,.m 9 54]) .ret)))))))
theorem r_law20_all:resFn Tryz.prog 12=some ⟨55,c_law20_all.r,[.tmp 8,.tmp 9]⟩:=by kernel_rfl
theorem k_law20_all:c_law20_all.ok=true:=by kernel_rfl
def c_law20_tells:LC:=(.seq (.ops [.z 12 (.move (.c (.bool false)))]) (.seq (.ops [.m 17 0,.z 18 (.callV (.c (.fn (.func 13) [] [])) [.t 17,.c (.i 3),.c (.i 0),.c (.i (-1)),.c (.i (-1)),.c (.u 0)]),.z 13 (.alloc [(.i 0),(.i 0),(.i 0),(.i 0),(.i 0),(.i 0),(.u 0)]),⟨none,none,.store 7 (.t 13) (.t 18)⟩]) (.seq (.seq (.ops [.z 14 (.move (.c (.i 0)))]) (.block 0 (.loop (.seq (.seq (.ops [.m 19 14,.m 20 5,.z 21 (.lenSl (.t 20)),.z 22 (.bin .lss false 3 (.t 19) (.t 21))]) (.cond (.t 22) .skip (.exit 0))) (.seq (.block 1 (.seq (.seq (.ops [.m 25 5,.m 26 14,.z 27 (.ixAddr 1 (.t 25) (.t 26)),.l 28 27,.z 29 (.bin .eql true 3 (.t 28) (.c (.i 1)))]) (.cond (.t 29) (.ops [.f 30 4 13,⟨none,none,.store 1 (.t 30) (.c (.i 1))⟩]) .skip)) (.seq (.ops [.m 31 5,.m 32 14,.z 33 (.ixAddr 1 (.t 31) (.t 32)),.l 34 33,.z 35 (.bin .eql true 3 (.t 34) (.c (.i 2)))]) (.cond (.t 35) (.ops [.f 36 5 13,⟨none,none,.store 1 (.t 36) (.c (.i 2))⟩]) .skip)))) (.ops [.m 23 14,.z 24 (.bin .add true 3 (.t 23) (.c (.i 1))),.m 14 24])))))) (.seq (.seq (.ops [.m 37 0,.z 38 (.bin .eql true 3 (.t 37) (.c (.i 13)))]) (.cond (.t 38) (.ops [.f 39 6 13,⟨none,none,.store 1 (.t 39) (.c (.u 1))⟩]) .skip)) (.seq (.ops [.z 41 (.loadN 7 (.t 13)),.m 42 1,.m 43 2,.m 44 3,.z 45 (.callV (.c (.fn (.func 12) [] [])) [.t 41,.t 42,.t 43,.t 44]),.m 40 45,.z 46 (.extract 0 (.t 40)),.z 47 (.extract 1 (.t 40)),.m 15 46,.m 16 47]) (.seq (.ops [.m 48 16,.z 49 (.bin .eql true 32 (.t 48) (.c (.i 0))),.m 50 49,⟨some 51,(some (50,true)),.move (.t 15)⟩,⟨some 52,(some (50,true)),.move (.t 4)⟩,⟨some 53,(some (50,true)),.bin .eql false 28 (.t 51) (.t 52)⟩,.z 54 (.pick (.t 50) (.t 53) (.c (.bool false))),.m 12 54]) .ret))))))
theorem r_law20_tells:resFn Tryz.prog 14=some ⟨55,c_law20_tells.r,[.tmp 12]⟩:=by kernel_rfl
theorem k_law20_tells:c_law20_tells.ok=true:=by kernel_rfl
def c_law20_example:LC:=(.seq (.ops [.z 0 (.alloc [.nilSl,.nilSl,.nilSl])]) (.seq (.ops [.z 1 (.build [(.i 0),(.bool false),(.i 0)] [(0,1,.c (.i 2)),(1,1,(.c (.bool true))),(2,1,.c (.i 2))]),.z 2 (.build [(.i 0),(.bool false),(.i 0)] [(0,1,.c (.i 4)),(1,1,(.c (.bool true))),(2,1,.c (.i 3))]),.z 3 (.build [(.i 0),(.bool false),(.i 0)] [(0,1,.c (.i 4))]),.z 4 (.buildSl 3 3 [(.i 0),(.bool false),(.i 0),(.i 0),(.bool false),(.i 0),(.i 0),(.bool false),(.i 0)] [(0,3,.t 1),(3,3,.t 2),(6,3,.t 3)]),.z 5 (.callV (.c (.fn (.func 13) [] [])) [(.c (.i 1)),.c (.i 1),.c (.i (-1)),.c (.i (-1)),.c (.i (-1)),.c (.u 0)]),.z 6 (.callV (.c (.fn (.func 13) [] [])) [(.c (.i 1)),.c (.i 2),.c (.i (-1)),.c (.i (-1)),.c (.i (-1)),.c (.u 3)]),.z 7 (.callV (.c (.fn (.func 13) [] [])) [(.c (.i 5)),.c (.i 1),.c (.i 0),.c (.i 2),.c (.i (-1)),.c (.u 0)]),.z 8 (.buildSl 7 3 [(.i 0),(.i 0),(.i 0),(.i 0),(.i 0),(.i 0),(.u 0),(.i 0),(.i 0),(.i 0),(.i 0),(.i 0),(.i 0),(.u 0),(.i 0),(.i 0),(.i 0),(.i 0),(.i 0),(.i 0),(.u 0)] [(0,7,.t 5),(7,7,.t 6),(14,7,.t 7)]),.z 9 (.build [.nilSl,.nilSl,.nilSl] [(0,1,.t 4),(1,1,.t 8)]),⟨none,none,.store 3 (.t 0) (.t 9)⟩]) .ret))
theorem r_law20_example:resFn Tryz.prog 10=some ⟨10,c_law20_example.r,[.cellN 0 3]⟩:=by kernel_rfl
theorem k_law20_example:c_law20_example.ok=true:=by kernel_rfl
theorem law20_all_ok {o:Ko} {a b c w:UInt64} (h:OneIs o a.toNat b.toNat c.toNat w.toNat):FnS Tryz.prog 12 [.agg o.f,.u a,.u b,.u c] (.tup [.u w,.i 0]) []:=by
 refine FnS.val rfl (call_body r_law20_all k_law20_all (by simp) ?_)
 obtain⟨hc,hk,hm,hw⟩:=h
 have hR:=run_one hc hk a.toNat_lt b.toNat_lt c.toNat_lt
 rw[if_pos hm,hw] at hR
 have hv:[[a],[b],[c]].map val=[a.toNat,b.toNat,c.toNat]:=by simp[val_single]
 have hf7:o.f=[.i o.kind,.i o.d,.i o.e,.i o.a,.i o.b,.i o.c,.u o.imm]:=rfl
 have hrun:=Run_ok vs4 [o] [] [[a],[b],[c]] (by decide) (by simp)
 rw[hv,hR] at hrun
 simp[c_law20_all,hf7]
 refine CallL_fzG (args':=[.agg [.lst (vsC vs4) 4 3,.dy 3 0,.nilSl],.dy 8 0]) (p:=2) rfl (fun c c' r hle hx ha=>?_) ?_
 ·cases ha with
  | cons e es=>cases e with
   | agg e=>cases e with
    | cons e1 e2=>exact .cons (.agg (.cons (hx _ e1) (e2.mono hle))) (es.mono hle)
 refine CallL_fzG (args':=[.agg [.lst (vsC vs4) 4 3,.lst (osC [o]) 1 7,.nilSl],.dy 8 0]) (p:=3) rfl (fun c c' r hle hx ha=>?_) ?_
 ·cases ha with
  | cons e es=>cases e with
   | agg e=>cases e with
    | cons e1 e2=>cases e2 with
     | cons e2 e3=>exact .cons (.agg (.cons (e1.mono hle) (.cons (hx _ e2) (e3.mono hle)))) (es.mono hle)
 refine CallL_fzD (p:=5) (q:=8) (a:=[]) (b:=[.dy 6 0,.dy 7 0]) rfl rfl (by decide) ?_
 refine CallL_fzD (p:=6) (q:=8) (a:=[LU [a]]) (b:=[.dy 7 0]) rfl rfl (by decide) ?_
 refine CallL_fzD (p:=7) (q:=8) (a:=[LU [a],LU [b]]) (b:=[]) rfl rfl (by decide) ?_
 refine CallL_fzG (args':=[.agg [.lst (vsC vs4) 4 3,.lst (osC [o]) 1 7,.nilSl],LN [[a],[b],[c]]]) (p:=8) rfl (fun c c' r hle hx ha=>?_) ?_
 ·cases ha with
  | cons e es=>cases es with
   | cons e2 es=>exact .cons (e.mono hle) (.cons (hx _ e2) (es.mono hle))
 refine CallL_args (args':=[.agg (kerC vs4 [o] []),LN [[a],[b],[c]]]) (fun c r ha=>?_) ?_
 ·cases ha with
  | cons e es=>cases e with
   | agg e=>cases e with
    | cons e1 e2=>cases e2 with
     | cons e2 e3=>cases e3 with
      | cons e3 e4 =>
       cases e3
       exact .cons (.agg (.cons e1 (.cons e2 (.cons .lstNil e4)))) es
 refine CallL_V hrun (by simp[dats,LV.dat,kerC,vsC_dats,osC_dats,LN,LN_dats]) ?_
 by_cases hw0:w=0
 ·subst hw0
  simp[toL_zero,LN]
 ·have hwl:toL w.toNat=[w]:=by
   have h:=toL_val (l:=[w]) (.inr (by simpa using hw0))
   rw[val_single] at h
   exact h
  simp[hwl,LN]
theorem law20_all_no {o:Ko} {a b c:UInt64} (hc:chkB vs4 [o] []=true) (hk:kdK o=0) (hm:metB o [a.toNat,b.toNat,c.toNat,0]=false):FnS Tryz.prog 12 [.agg o.f,.u a,.u b,.u c] (.tup [.u 0,.i 9]) []:=by
 refine FnS.val rfl (call_body r_law20_all k_law20_all (by simp) ?_)
 have hR:=run_one hc hk a.toNat_lt b.toNat_lt c.toNat_lt
 rw[if_neg (by rw[hm]; decide)] at hR
 have hv:[[a],[b],[c]].map val=[a.toNat,b.toNat,c.toNat]:=by simp[val_single]
 have hf7:o.f=[.i o.kind,.i o.d,.i o.e,.i o.a,.i o.b,.i o.c,.u o.imm]:=rfl
 have hrun:=Run_ok vs4 [o] [] [[a],[b],[c]] (by decide) (by simp)
 rw[hv,hR] at hrun
 simp[c_law20_all,hf7]
 refine CallL_fzG (args':=[.agg [.lst (vsC vs4) 4 3,.dy 3 0,.nilSl],.dy 8 0]) (p:=2) rfl (fun c c' r hle hx ha=>?_) ?_
 ·cases ha with
  | cons e es=>cases e with
   | agg e=>cases e with
    | cons e1 e2=>exact .cons (.agg (.cons (hx _ e1) (e2.mono hle))) (es.mono hle)
 refine CallL_fzG (args':=[.agg [.lst (vsC vs4) 4 3,.lst (osC [o]) 1 7,.nilSl],.dy 8 0]) (p:=3) rfl (fun c c' r hle hx ha=>?_) ?_
 ·cases ha with
  | cons e es=>cases e with
   | agg e=>cases e with
    | cons e1 e2=>cases e2 with
     | cons e2 e3=>exact .cons (.agg (.cons (e1.mono hle) (.cons (hx _ e2) (e3.mono hle)))) (es.mono hle)
 refine CallL_fzD (p:=5) (q:=8) (a:=[]) (b:=[.dy 6 0,.dy 7 0]) rfl rfl (by decide) ?_
 refine CallL_fzD (p:=6) (q:=8) (a:=[LU [a]]) (b:=[.dy 7 0]) rfl rfl (by decide) ?_
 refine CallL_fzD (p:=7) (q:=8) (a:=[LU [a],LU [b]]) (b:=[]) rfl rfl (by decide) ?_
 refine CallL_fzG (args':=[.agg [.lst (vsC vs4) 4 3,.lst (osC [o]) 1 7,.nilSl],LN [[a],[b],[c]]]) (p:=8) rfl (fun c c' r hle hx ha=>?_) ?_
 ·cases ha with
  | cons e es=>cases es with
   | cons e2 es=>exact .cons (e.mono hle) (.cons (hx _ e2) (es.mono hle))
 refine CallL_args (args':=[.agg (kerC vs4 [o] []),LN [[a],[b],[c]]]) (fun c r ha=>?_) ?_
 ·cases ha with
  | cons e es=>cases e with
   | agg e=>cases e with
    | cons e1 e2=>cases e2 with
     | cons e2 e3=>cases e3 with
      | cons e3 e4 =>
       cases e3
       exact .cons (.agg (.cons e1 (.cons e2 (.cons .lstNil e4)))) es
 refine CallL_V hrun (by simp[dats,LV.dat,kerC,vsC_dats,osC_dats,LN,LN_dats]) ?_
 simp[LN]
def hasB (l:List Int):Int:=if 1∈l then 1 else -1
def hasC (l:List Int):Int:=if 2∈l then 2 else -1
theorem hasB_snoc {l:List Int} {x:Int} (h:x≠1):hasB (l++[x])=hasB l:=by simp[hasB,Ne.symm h]
theorem hasC_snoc {l:List Int} {x:Int} (h:x≠2):hasC (l++[x])=hasC l:=by simp[hasC,Ne.symm h]
theorem law20_tells_ok {k:Int} {a b c want:UInt64} {l:List Int} (hl:l.length≤1000) (h:OneIs (k4 k (hasB l) (hasC l) (if k=13 then 1 else 0)) a.toNat b.toNat c.toNat want.toNat):FnS Tryz.prog 14 [.i k,.u a,.u b,.u c,.u want,.lst (l.map .i) l.length 1] (.bool true) []:=by
 refine FnS.val rfl (call_body r_law20_tells k_law20_tells (by simp) ?_)
 simp[c_law20_tells]
 refine CallL_F (law20_op_ok k 3 0 (-1) (-1) 0) (by simp) ?_
 simp[Ko.f]
 refine loop_nx (fun ρ D G N=>∃ (i st:Nat),D=[]∧N+i=l.length∧lk ρ 0=.i k∧lk ρ 1=.u a∧lk ρ 2=.u b∧lk ρ 3=.u c∧lk ρ 4=.u want∧lk ρ 5=.lst (l.map .i) l.length 1∧lk ρ 13=.ptr 0 0∧lk ρ 14=.i i∧G=[.cells [.i k,.i 3,.i (-1),.i 0,.i (hasB (l.take i)),.i (hasC (l.take i)),.u 0] st]) (N:=l.length)
  ⟨0,1,rfl,by omega,by simp,by simp,by simp,by simp,by simp,by simp,by simp,by simp,by simp[hasB,hasC]⟩ ?_
 rintro N ρ D G ⟨i,st,rfl,hN,h0,h1,h2,h3,h4,h5,h13,h14,rfl⟩ Nx hNx
 by_cases g:i < l.length
 ·have q:(l.map LV.i)[i]?=some (.i l[i]):=by simp[g]
  have ht:l.take (i+1)=l.take i++[l[i]]:=List.take_succ_eq_append_getElem g
  have hb1:l[i]=1→hasB (l.take (i+1))=1:=fun e=>by rw[ht,e]; simp[hasB]
  have hb2:l[i]≠1→hasB (l.take (i+1))=hasB (l.take i):=fun e=>by rw[ht]; exact hasB_snoc e
  have hc1:l[i]=2→hasC (l.take (i+1))=2:=fun e=>by rw[ht,e]; simp[hasC]
  have hc2:l[i]≠2→hasC (l.take (i+1))=hasC (l.take i):=fun e=>by rw[ht]; exact hasC_snoc e
  generalize l[i]=x at *
  by_cases x1:x=1
  ·have x2:x≠2:=by omega
   have e1:=hb1 x1
   have e2:=hc2 x2
   subst x1
   simp[h5,h14,h13,g,nthL_at q]
   exact⟨by omega,hNx _ _ _ ⟨N - 1,by omega,i+1,st+1,rfl,by omega,by simp[h0],by simp[h1],by simp[h2],by simp[h3],by simp[h4],by simp[h5],by simp[h13],by simp,by rw[e1,e2]⟩⟩
  by_cases x2:x=2
  ·have e1:=hb2 x1
   have e2:=hc1 x2
   subst x2
   simp[h5,h14,h13,g,nthL_at q]
   exact⟨by omega,hNx _ _ _ ⟨N - 1,by omega,i+1,st+1,rfl,by omega,by simp[h0],by simp[h1],by simp[h2],by simp[h3],by simp[h4],by simp[h5],by simp[h13],by simp,by rw[e1,e2]⟩⟩
  ·simp[h5,h14,h13,g,nthL_at q,x1,x2]
   exact⟨by omega,hNx _ _ _ ⟨N - 1,by omega,i+1,st,rfl,by omega,by simp[h0],by simp[h1],by simp[h2],by simp[h3],by simp[h4],by simp[h5],by simp[h13],by simp,by rw[hb2 x1,hc2 x2]⟩⟩
 ·rw[List.take_of_length_le (by omega)]
  have hO:=law20_all_ok h
  have hf7:(k4 k (hasB l) (hasC l) (if k=13 then 1 else 0)).f=[.i k,.i 3,.i (-1),.i 0,.i (hasB l),.i (hasC l),.u (if k=13 then 1 else 0)]:=rfl
  rw[hf7] at hO
  by_cases k13:k=13
  ·rw[if_pos k13] at hO
   simp[h0,h1,h2,h3,h4,h5,h13,h14,g,k13]
   rw[k13] at hO
   refine CallL_F hO (by simp) ?_
   simp[h4]
  ·rw[if_neg k13] at hO
   simp[h0,h1,h2,h3,h4,h5,h13,h14,g,k13]
   refine CallL_F hO (by simp) ?_
   simp[h4]
theorem law20_example_any {G:LHeap} {K:LV→LHeap→Prop} (k:∀ G2 p,Keep G G2→G.length≤p→G2[p]?=some (.dyn (vsC vsX) 3 3 0 0)→G2[p+1]?=some (.dyn (osC osX) 3 7 0 0)→K (.agg [.dy p 0,.dy (p+1) 0,.nilSl]) G2):CallL Tryz.prog (.fn 10) [] G K:=by
 refine call_body r_law20_example k_law20_example (by simp) ?_
 simp[c_law20_example]
 refine CallL_F (law20_op_ok 1 1 (-1) (-1) (-1) 0) (by simp) ?_
 simp[Ko.f]
 refine CallL_F (law20_op_ok 1 2 (-1) (-1) (-1) 3) (by simp) ?_
 simp[Ko.f]
 refine CallL_F (law20_op_ok 5 1 0 2 (-1) 0) (by simp) ?_
 simp[Ko.f]
 refine k _ (G.length+1) ⟨by simp,fun q hq=>old1 hq⟩ (by omega) ?_ ?_
 ·rw[List.getElem?_append_right (by omega),show G.length+1 - G.length=1 by omega]; rfl
 ·rw[List.getElem?_append_right (by omega),show G.length+1+1 - G.length=2 by omega]; rfl
end Go.Proofs.YtnbnhnjffiagmaaGreat
