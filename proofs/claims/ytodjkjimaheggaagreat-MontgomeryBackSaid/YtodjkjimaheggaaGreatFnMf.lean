/- Code is put: the emitter's functions. -/
import Derived.Test.YtodjkjimaheggaaGreatSvG3
import Derived.Test.YtodjkjimaheggaaGreatProg
import Derived.KernelRfl
namespace Go.Proofs.YtodjkjimaheggaaGreat
open Go.Sv
set_option linter.unusedSimpArgs false
set_option maxRecDepth 10000
def z5f:LC:=(.ops [.m 18 0,.m 19 0,.z 20 (.nilChk (.t 19)),.f 21 0 20,.l 22 21,.m 23 1,.m 24 2,.m 25 3,.m 26 4,.m 27 5,.m 28 6,.m 29 7,.m 30 8,.z 31 (.build [(.i 0),(.i 0),(.i 0),(.i 0),(.i 0),(.i 0),(.i 0),(.u 0)] [(0,1,.t 23),(1,1,.t 24),(2,1,.t 25),(3,1,.t 26),(4,1,.t 27),(5,1,.t 28),(6,1,.t 29),(7,1,.t 30)]),.z 32 (.buildSl 8 1 [(.i 0),(.i 0),(.i 0),(.i 0),(.i 0),(.i 0),(.i 0),(.u 0)] [(0,8,.t 31)]),.z 33 (.appG 8 (.t 22) (.t 32)),.z 34 (.nilChk (.t 18)),.f 35 0 34,⟨none,none,.store 1 (.t 35) (.t 33)⟩])
theorem r_expand_Emit_put:z0f Tryz.prog 131=some ⟨36,z5f.r,[]⟩:=by kernel_rfl
theorem k_expand_Emit_put:z5f.ok=true:=by kernel_rfl
def z48:LC:=(.ops [.m 6 0,.m 7 1,.m 8 2,.z 9 (.callV (.c (.fn (.func 131) [] [])) [.t 6,.c (.i 1),.t 7,.c (.i (-1)),.c (.i (-1)),.c (.i (-1)),.c (.i (-1)),.c (.i 0),.t 8])])
theorem r_expand_Emit_Const:z0f Tryz.prog 69=some ⟨10,z48.r,[]⟩:=by kernel_rfl
theorem k_expand_Emit_Const:z48.ok=true:=by kernel_rfl
def z5b:LC:=(.ops [.m 10 0,.m 11 1,.m 12 2,.m 13 3,.m 14 4,.z 15 (.callV (.c (.fn (.func 131) [] [])) [.t 10,.t 11,.t 12,.c (.i (-1)),.t 13,.t 14,.c (.i (-1)),.c (.i 0),.c (.u 0)])])
theorem r_expand_Emit_Two:z0f Tryz.prog 108=some ⟨16,z5b.r,[]⟩:=by kernel_rfl
theorem k_expand_Emit_Two:z5b.ok=true:=by kernel_rfl
def z4x:LC:=(.ops [.m 10 0,.m 11 1,.m 12 2,.m 13 3,.m 14 4,.z 15 (.callV (.c (.fn (.func 131) [] [])) [.t 10,.c (.i 10),.t 11,.t 12,.t 13,.t 14,.c (.i (-1)),.c (.i 0),.c (.u 0)])])
theorem r_expand_Emit_Mul:z0f Tryz.prog 132=some ⟨16,z4x.r,[]⟩:=by kernel_rfl
theorem k_expand_Emit_Mul:z4x.ok=true:=by kernel_rfl
def z4b:LC:=(.ops [.m 14 0,.m 15 1,.m 16 2,.m 17 3,.m 18 4,.m 19 5,.m 20 6,.z 21 (.callV (.c (.fn (.func 131) [] [])) [.t 14,.t 15,.t 16,.t 17,.t 18,.t 19,.t 20,.c (.i 0),.c (.u 0)])])
theorem r_expand_Emit_Carry:z0f Tryz.prog 104=some ⟨22,z4b.r,[]⟩:=by kernel_rfl
theorem k_expand_Emit_Carry:z4b.ok=true:=by kernel_rfl
def z53:LC:=(.ops [.m 10 0,.m 11 1,.m 12 3,.m 13 4,.m 14 2,.z 15 (.callV (.c (.fn (.func 131) [] [])) [.t 10,.c (.i 13),.t 11,.c (.i (-1)),.t 12,.t 13,.t 14,.c (.i 0),.c (.u 0)])])
theorem r_expand_Emit_Sel:z0f Tryz.prog 113=some ⟨16,z53.r,[]⟩:=by kernel_rfl
theorem k_expand_Emit_Sel:z53.ok=true:=by kernel_rfl
def z4j:LC:=(.seq (.ops [.z 7 (.box (.t 2))]) (.ops [.m 10 0,.m 11 1,.m 12 3,.f 13 0 7,.l 14 13,.f 15 1 7,.l 16 15,.m 17 4,.z 18 (.bin .add false 3 (.t 16) (.t 17)),.z 19 (.cvInt .u64 (.t 18)),.z 20 (.callV (.c (.fn (.func 131) [] [])) [.t 10,.c (.i 14),.t 11,.c (.i (-1)),.t 12,.c (.i (-1)),.c (.i (-1)),.t 14,.t 19])]))
theorem r_expand_Emit_Load:z0f Tryz.prog 70=some ⟨21,z4j.r,[]⟩:=by kernel_rfl
theorem k_expand_Emit_Load:z4j.ok=true:=by kernel_rfl
def z4f:LC:=(.seq (.ops [.z 6 (.box (.t 1))]) (.ops [.m 10 0,.m 11 2,.m 12 4,.f 13 0 6,.l 14 13,.f 15 1 6,.l 16 15,.m 17 3,.z 18 (.bin .add false 3 (.t 16) (.t 17)),.z 19 (.cvInt .u64 (.t 18)),.z 20 (.callV (.c (.fn (.func 131) [] [])) [.t 10,.c (.i 15),.c (.i (-1)),.c (.i (-1)),.t 11,.t 12,.c (.i (-1)),.t 14,.t 19])]))
theorem r_expand_Emit_Store:z0f Tryz.prog 109=some ⟨21,z4f.r,[]⟩:=by kernel_rfl
theorem k_expand_Emit_Store:z4f.ok=true:=by kernel_rfl
def z3b:LC:=(.seq (.seq (.ops [.m 7 1,.z 8 (.bin .lss true 3 (.t 7) (.c (.i 1)))]) (.cond (.t 8) .ret .skip)) (.seq (.ops [.m 9 0,.z 10 (.nilChk (.t 9)),.f 11 1 10,.l 12 11,.m 6 12]) (.seq (.ops [.m 13 0,.m 14 6,.m 15 1,.z 16 (.cvInt .u64 (.t 15)),.z 17 (.callV (.c (.fn (.func 131) [] [])) [.t 13,.c (.i 16),.t 14,.c (.i (-1)),.c (.i (-1)),.c (.i (-1)),.c (.i (-1)),.c (.i 0),.t 16])]) (.seq (.ops [.m 18 0,.z 19 (.nilChk (.t 18)),.f 20 1 19,.l 21 20,.z 22 (.bin .add true 3 (.t 21) (.c (.i 1))),.z 23 (.nilChk (.t 18)),.f 24 1 23,⟨none,none,.store 1 (.t 24) (.t 22)⟩]) (.seq (.ops [.m 25 2,.m 26 6,.z 27 (.callV (.t 25) [.t 26])]) (.seq (.ops [.m 28 0,.z 29 (.nilChk (.t 28)),.f 30 1 29,.l 31 30,.z 32 (.bin .sub true 3 (.t 31) (.c (.i 1))),.z 33 (.nilChk (.t 28)),.f 34 1 33,⟨none,none,.store 1 (.t 34) (.t 32)⟩]) (.ops [.m 35 0,.z 36 (.callV (.c (.fn (.func 131) [] [])) [.t 35,.c (.i 17),.c (.i (-1)),.c (.i (-1)),.c (.i (-1)),.c (.i (-1)),.c (.i (-1)),.c (.i 0),.c (.u 0)])])))))))
theorem r_expand_Emit_Loop:z0f Tryz.prog 73=some ⟨37,z3b.r,[]⟩:=by kernel_rfl
theorem k_expand_Emit_Loop:z3b.ok=true:=by kernel_rfl
def z4l:LC:=(.seq (.ops [.z 3 (.box (.t 0)),.z 4 (.box (.t 1)),.z 5 (.box (.t 2))]) (.ops [.l 6 3,.f 7 2 4,.l 8 7,.z 9 (.mkFunc 133 [] [.t 3,.t 4,.t 5]),.z 10 (.callV (.c (.fn (.func 73) [] [])) [.t 6,.t 8,.t 9])]))
theorem r_expand_Emit_Fill:z0f Tryz.prog 72=some ⟨11,z4l.r,[]⟩:=by kernel_rfl
theorem k_expand_Emit_Fill:z4l.ok=true:=by kernel_rfl
def z3y:LC:=(.ops [.l 5 1,.z 6 (.loadN 3 (.t 2)),.m 7 0,.l 8 3,.z 9 (.callV (.c (.fn (.func 109) [] [])) [.t 5,.t 6,.t 7,.c (.i 0),.t 8])])
theorem r_expand_Emit_Fill_1:z0f Tryz.prog 133=some ⟨10,z3y.r,[]⟩:=by kernel_rfl
theorem k_expand_Emit_Fill_1:z3y.ok=true:=by kernel_rfl
def z8e:LC:=(.seq (.ops [.z 3 (.box (.t 0)),.z 6 (.alloc [(.i 0),(.i 0),(.i 0)])]) (.seq (.ops [.f 7 0 3,.l 8 7,.f 9 1 3,.l 10 9,.m 11 1,.z 12 (.bin .add false 3 (.t 10) (.t 11)),.m 13 2,.z 14 (.build [(.i 0),(.i 0),(.i 0)] [(0,1,.t 8),(1,1,.t 12),(2,1,.t 13)]),⟨none,none,.store 3 (.t 6) (.t 14)⟩]) .ret))
theorem r_expand_Part:z0f Tryz.prog 68=some ⟨15,z8e.r,[.cellN 6 3]⟩:=by kernel_rfl
theorem k_expand_Part:z8e.ok=true:=by kernel_rfl
section emit
variable {G : z03} {K : LV → z03 → Prop} {e : Nat} {ops : List Lo} {deep : Int}
theorem z8s {kind d ee a b c buf:Int} {imm:UInt64} (h:EmH G e ops deep) (hl:ops.length≤1000000) (k:∀ G',EmH G' e (ops++[⟨kind,d,ee,a,b,c,buf,imm⟩]) deep→Kp e G G'→K (.tup []) G') :
  z0k Tryz.prog (.fn 131) [.ptr e 0,.i kind,.i d,.i ee,.i a,.i b,.i c,.i buf,.u imm] G K:=by
 obtain⟨st,v,h1,h2⟩:=h
 have le:e < G.length:=(List.getElem?_eq_some_iff.1 h1).1
 refine z01 r_expand_Emit_put k_expand_Emit_put (by simp) ?_
 simp[z5f,h1]
 refine StD.push2 (x:=[.i kind,.i d,.i ee,.i a,.i b,.i c,.i buf,.u imm]) h2.push_end (by omega) (by omega) (by omega) rfl rfl fun v' G5 hs5 hf5 hl5 hr5=>?_
 have hne:∀ (q:Nat) (ob:LObj),(∀ R m k st,ob≠LObj.dyn R m 8 k st)→G[q]?=some ob→G5[q]?=some ob:=fun q ob ho hq=>by
  have hql:=(List.getElem?_eq_some_iff.1 hq).1
  rw[hf5 q (by simp; omega) (fun r=>?_),oldP hql]
  ·exact hq
  ·obtain⟨_,_,R,m,k,st,hR⟩:=h2.row r
   rw[hq] at hR
   exact ho _ _ _ _ (Option.some.inj hR)
 have h5:=hne e _ (fun _ _ _ _ q=>by cases q) h1
 have hcl:=hs5.cells
 simp[-LV.cells,hcl,h5]
 have le5:e < G5.length:=(List.getElem?_eq_some_iff.1 h5).1
 refine k _ ⟨st+1,v',List.getElem?_set_self le5,?_⟩ ⟨by simp at hl5 ⊢; omega,fun q ob hq ho hG=>?_⟩
 ·rw[zk8,List.length_append]
  exact hs5.set_cells h5
 ·rw[List.getElem?_set_ne (Ne.symm hq)]; exact hne q ob ho hG
theorem z6v {d:Int} {n:UInt64} (h:EmH G e ops deep) (hl:ops.length≤1000000) (k:∀ G',EmH G' e (ops++[cK d n]) deep→Kp e G G'→K (.tup []) G'):z0k Tryz.prog (.fn 69) [.ptr e 0,.i d,.u n] G K:=by
 refine z01 r_expand_Emit_Const k_expand_Emit_Const (by simp) ?_
 simp[z48]
 refine z8s h hl fun G' h' hk=>?_
 simpa using k G' h' hk
theorem zds {kd d a b:Int} (h:EmH G e ops deep) (hl:ops.length≤1000000) (k:∀ G',EmH G' e (ops++[cTwo kd d a b]) deep→Kp e G G'→K (.tup []) G'):z0k Tryz.prog (.fn 108) [.ptr e 0,.i kd,.i d,.i a,.i b] G K:=by
 refine z01 r_expand_Emit_Two k_expand_Emit_Two (by simp) ?_
 simp[z5b]
 refine z8s h hl fun G' h' hk=>?_
 simpa using k G' h' hk
theorem zg6 {hi lo a b:Int} (h:EmH G e ops deep) (hl:ops.length≤1000000) (k:∀ G',EmH G' e (ops++[cMul hi lo a b]) deep→Kp e G G'→K (.tup []) G'):z0k Tryz.prog (.fn 132) [.ptr e 0,.i hi,.i lo,.i a,.i b] G K:=by
 refine z01 r_expand_Emit_Mul k_expand_Emit_Mul (by simp) ?_
 simp[z4x]
 refine z8s h hl fun G' h' hk=>?_
 simpa using k G' h' hk
theorem za1 {kd d out a b c:Int} (h:EmH G e ops deep) (hl:ops.length≤1000000) (k:∀ G',EmH G' e (ops++[cCar kd d out a b c]) deep→Kp e G G'→K (.tup []) G'):z0k Tryz.prog (.fn 104) [.ptr e 0,.i kd,.i d,.i out,.i a,.i b,.i c] G K:=by
 refine z01 r_expand_Emit_Carry k_expand_Emit_Carry (by simp) ?_
 simp[z4b]
 refine z8s h hl fun G' h' hk=>?_
 simpa using k G' h' hk
theorem Sel_any {d c a b:Int} (h:EmH G e ops deep) (hl:ops.length≤1000000) (k:∀ G',EmH G' e (ops++[cSel d c a b]) deep→Kp e G G'→K (.tup []) G'):z0k Tryz.prog (.fn 113) [.ptr e 0,.i d,.i c,.i a,.i b] G K:=by
 refine z01 r_expand_Emit_Sel k_expand_Emit_Sel (by simp) ?_
 simp[z53]
 refine z8s h hl fun G' h' hk=>?_
 simpa using k G' h' hk
theorem z3q {d i off:Int} {p:Pc} (hp:-1000000000≤p.at_+off∧p.at_+off≤1000000000) (h:EmH G e ops deep) (hl:ops.length≤1000000) (k:∀ G',EmH G' e (ops++[cLd d p i off]) deep→Kp e G G'→K (.tup []) G'):z0k Tryz.prog (.fn 70) [.ptr e 0,.i d,.agg p.f,.i i,.i off] G K:=by
 refine z01 r_expand_Emit_Load k_expand_Emit_Load (by simp) ?_
 simp[z4j,Pc.f]
 repeat (refine⟨by omega,?_⟩)
 refine z8s (h.app _) hl fun G' h' hk=>?_
 simpa using k G' h' ((Kp.app' _ _ _).trans hk)
theorem z63 {i off b:Int} {p:Pc} (hp:-1000000000≤p.at_+off∧p.at_+off≤1000000000) (h:EmH G e ops deep) (hl:ops.length≤1000000) (k:∀ G',EmH G' e (ops++[cSt p i off b]) deep→Kp e G G'→K (.tup []) G'):z0k Tryz.prog (.fn 109) [.ptr e 0,.agg p.f,.i i,.i off,.i b] G K:=by
 refine z01 r_expand_Emit_Store k_expand_Emit_Store (by simp) ?_
 simp[z4f,Pc.f]
 repeat (refine⟨by omega,?_⟩)
 refine z8s (h.app _) hl fun G' h' hk=>?_
 simpa using k G' h' ((Kp.app' _ _ _).trans hk)
theorem zpe {times:Int} {f:Nat} {fst cap:List LV} (hd:0≤deep∧deep≤100) (h:EmH G e ops deep) (hl:ops.length≤1000000) (k0:times < 1→K (.tup []) G)
  (k1:1≤times→∀ G1,EmH G1 e (ops++[cLp deep times]) (deep+1)→Kp e G G1→z0k Tryz.prog (.fn f) (fst++.i deep::cap) G1 fun _ G2=>∃ ops',ops'.length≤1000000∧EmH G2 e ops' (deep+1)∧∀ G3,EmH G3 e (ops'++[cEn]) deep→Kp e G2 G3→K (.tup []) G3) :
  z0k Tryz.prog (.fn 73) [.ptr e 0,.i times,.fn (.func f) fst cap] G K:=by
 refine z01 r_expand_Emit_Loop k_expand_Emit_Loop (by simp) ?_
 by_cases g:times < 1
 ·simpa [z3b,g] using k0 g
 obtain⟨st,v,h1,h2⟩:=id h
 simp[z3b,g,h1]
 refine z8s h hl fun G1 e1 hk1=>?_
 obtain⟨st1,v1,h11,h12⟩:=e1
 simp[h11]
 have le1:e < G1.length:=(List.getElem?_eq_some_iff.1 h11).1
 refine⟨by omega,?_⟩
 have hkset:∀ (a:z03) (ob:LObj),Kp e a (a.set e ob):=fun a ob=>⟨by simp,fun q o hq _ ho=>by rw[List.getElem?_set_ne (Ne.symm hq)]; exact ho⟩
 have hcall:=k1 (by omega) (G1.set e (.cells [v1,.i (deep+1)] (st1+1))) ⟨st1+1,v1,List.getElem?_set_self le1,h12.set_cells h11⟩ (hk1.trans (hkset _ _))
 refine hcall.mono fun w G2 hw=>?_
 obtain⟨ops',hl',e2,k2⟩:=hw
 obtain⟨st2,v2,h21,h22⟩:=e2
 simp[h21]
 have le2:e < G2.length:=(List.getElem?_eq_some_iff.1 h21).1
 refine⟨by omega,?_⟩
 refine z8s (deep:=deep) ⟨st2+1,v2,List.getElem?_set_self le2,h22.set_cells h21⟩ hl' fun G3 e3 hk3=>?_
 simpa using k2 G3 e3 ((hkset _ _).trans hk3)
end emit
end Go.Proofs.YtodjkjimaheggaaGreat
