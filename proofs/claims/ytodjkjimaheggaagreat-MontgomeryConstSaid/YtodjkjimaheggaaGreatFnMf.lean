/- Code is put: the emitter's functions. -/
import Derived.Test.YtodjkjimaheggaaGreatSvG3
import Derived.Test.YtodjkjimaheggaaGreatProg
import Derived.KernelRfl
namespace Go.Proofs.YtodjkjimaheggaaGreat
open Go.Sv
set_option linter.unusedSimpArgs false
set_option maxRecDepth 10000
def c_expand_Emit_put:LC:=(.ops [.m 18 0,.m 19 0,.z 20 (.nilChk (.t 19)),.f 21 0 20,.l 22 21,.m 23 1,.m 24 2,.m 25 3,.m 26 4,.m 27 5,.m 28 6,.m 29 7,.m 30 8,.z 31 (.build [(.i 0),(.i 0),(.i 0),(.i 0),(.i 0),(.i 0),(.i 0),(.u 0)] [(0,1,.t 23),(1,1,.t 24),(2,1,.t 25),(3,1,.t 26),(4,1,.t 27),(5,1,.t 28),(6,1,.t 29),(7,1,.t 30)]),.z 32 (.buildSl 8 1 [(.i 0),(.i 0),(.i 0),(.i 0),(.i 0),(.i 0),(.i 0),(.u 0)] [(0,8,.t 31)]),.z 33 (.appG 8 (.t 22) (.t 32)),.z 34 (.nilChk (.t 18)),.f 35 0 34,⟨none,none,.store 1 (.t 35) (.t 33)⟩])
theorem r_expand_Emit_put:resFn Tryz.prog 131=some ⟨36,c_expand_Emit_put.r,[]⟩:=by kernel_rfl
theorem k_expand_Emit_put:c_expand_Emit_put.ok=true:=by kernel_rfl
def c_expand_Emit_Const:LC:=(.ops [.m 6 0,.m 7 1,.m 8 2,.z 9 (.callV (.c (.fn (.func 131) [] [])) [.t 6,.c (.i 1),.t 7,.c (.i (-1)),.c (.i (-1)),.c (.i (-1)),.c (.i (-1)),.c (.i 0),.t 8])])
theorem r_expand_Emit_Const:resFn Tryz.prog 69=some ⟨10,c_expand_Emit_Const.r,[]⟩:=by kernel_rfl
theorem k_expand_Emit_Const:c_expand_Emit_Const.ok=true:=by kernel_rfl
def c_expand_Emit_Two:LC:=(.ops [.m 10 0,.m 11 1,.m 12 2,.m 13 3,.m 14 4,.z 15 (.callV (.c (.fn (.func 131) [] [])) [.t 10,.t 11,.t 12,.c (.i (-1)),.t 13,.t 14,.c (.i (-1)),.c (.i 0),.c (.u 0)])])
theorem r_expand_Emit_Two:resFn Tryz.prog 108=some ⟨16,c_expand_Emit_Two.r,[]⟩:=by kernel_rfl
theorem k_expand_Emit_Two:c_expand_Emit_Two.ok=true:=by kernel_rfl
def c_expand_Emit_Mul:LC:=(.ops [.m 10 0,.m 11 1,.m 12 2,.m 13 3,.m 14 4,.z 15 (.callV (.c (.fn (.func 131) [] [])) [.t 10,.c (.i 10),.t 11,.t 12,.t 13,.t 14,.c (.i (-1)),.c (.i 0),.c (.u 0)])])
theorem r_expand_Emit_Mul:resFn Tryz.prog 132=some ⟨16,c_expand_Emit_Mul.r,[]⟩:=by kernel_rfl
theorem k_expand_Emit_Mul:c_expand_Emit_Mul.ok=true:=by kernel_rfl
section emit
variable {G : LHeap} {K : LV → LHeap → Prop} {e : Nat} {ops : List Lo} {deep : Int}
theorem put_any {kind d ee a b c buf:Int} {imm:UInt64} (h:EmH G e ops deep) (hl:ops.length≤1000000) (k:∀ G',EmH G' e (ops++[⟨kind,d,ee,a,b,c,buf,imm⟩]) deep→Kp e G G'→K (.tup []) G') :
  CallL Tryz.prog (.fn 131) [.ptr e 0,.i kind,.i d,.i ee,.i a,.i b,.i c,.i buf,.u imm] G K:=by
 obtain⟨st,v,h1,h2⟩:=h
 have le:e < G.length:=(List.getElem?_eq_some_iff.1 h1).1
 refine call_body r_expand_Emit_put k_expand_Emit_put (by simp) ?_
 simp[c_expand_Emit_put,h1]
 refine StD.push2 (x:=[.i kind,.i d,.i ee,.i a,.i b,.i c,.i buf,.u imm]) h2.push_end (by omega) (by omega) (by omega) rfl rfl fun v' G5 hs5 hf5 hl5 hr5=>?_
 have hne:∀ (q:Nat) (ob:LObj),(∀ R m k st,ob≠LObj.dyn R m 8 k st)→G[q]?=some ob→G5[q]?=some ob:=fun q ob ho hq=>by
  have hql:=(List.getElem?_eq_some_iff.1 hq).1
  rw[hf5 q (by simp; omega) (fun r=>?_),oldP hql]
  ·exact hq
  ·obtain⟨_,_,R,m,k,st,hR⟩:=h2.row r
   rw[hq] at hR
   exact ho _ _ _ _ (Option.some.inj hR)
 have h5:=hne e _ (fun _ _ _ _ q=>by cases q) h1
 have hcl:=hs5.cells
 simp[-LV.cells,hcl,h5]
 have le5:e < G5.length:=(List.getElem?_eq_some_iff.1 h5).1
 refine k _ ⟨st+1,v',List.getElem?_set_self le5,?_⟩ ⟨by simp at hl5 ⊢; omega,fun q ob hq ho hG=>?_⟩
 ·rw[loC_app,List.length_append]
  exact hs5.set_cells h5
 ·rw[List.getElem?_set_ne (Ne.symm hq)]; exact hne q ob ho hG
theorem Const_any {d:Int} {n:UInt64} (h:EmH G e ops deep) (hl:ops.length≤1000000) (k:∀ G',EmH G' e (ops++[cK d n]) deep→Kp e G G'→K (.tup []) G'):CallL Tryz.prog (.fn 69) [.ptr e 0,.i d,.u n] G K:=by
 refine call_body r_expand_Emit_Const k_expand_Emit_Const (by simp) ?_
 simp[c_expand_Emit_Const]
 refine put_any h hl fun G' h' hk=>?_
 simpa using k G' h' hk
theorem Two_any {kd d a b:Int} (h:EmH G e ops deep) (hl:ops.length≤1000000) (k:∀ G',EmH G' e (ops++[cTwo kd d a b]) deep→Kp e G G'→K (.tup []) G'):CallL Tryz.prog (.fn 108) [.ptr e 0,.i kd,.i d,.i a,.i b] G K:=by
 refine call_body r_expand_Emit_Two k_expand_Emit_Two (by simp) ?_
 simp[c_expand_Emit_Two]
 refine put_any h hl fun G' h' hk=>?_
 simpa using k G' h' hk
theorem Mul_any {hi lo a b:Int} (h:EmH G e ops deep) (hl:ops.length≤1000000) (k:∀ G',EmH G' e (ops++[cMul hi lo a b]) deep→Kp e G G'→K (.tup []) G'):CallL Tryz.prog (.fn 132) [.ptr e 0,.i hi,.i lo,.i a,.i b] G K:=by
 refine call_body r_expand_Emit_Mul k_expand_Emit_Mul (by simp) ?_
 simp[c_expand_Emit_Mul]
 refine put_any h hl fun G' h' hk=>?_
 simpa using k G' h' hk
end emit
end Go.Proofs.YtodjkjimaheggaaGreat
