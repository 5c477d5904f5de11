/- Kernels: which variables must have as many limbs. -/
import Derived.Test.YtocgdaojgjnfcaaGreatFnKa
namespace Go.Proofs.YtocgdaojgjnfcaaGreat
open Go.Sv
set_option linter.unusedSimpArgs false
set_option maxRecDepth 10000
def c_lengths_alike:LC:=(.seq (.ops [.z 0 (.move (.c .nilMap))]) (.seq (.ops [.z 1 (.move (.c (.fn (.func 326) [] [])))]) (.seq (.ops [.z 2 (.mkMap0),⟨none,none,.mapUpd (.int .i64) (.t 2) (.c (.i 6)) (.c (.fn (.func 327) [] []))⟩,⟨none,none,.mapUpd (.int .i64) (.t 2) (.c (.i 14)) (.c (.fn (.func 328) [] []))⟩,⟨none,none,.mapUpd (.int .i64) (.t 2) (.c (.i 8)) (.c (.fn (.func 329) [] []))⟩,⟨none,none,.mapUpd (.int .i64) (.t 2) (.c (.i 9)) (.c (.fn (.func 330) [] []))⟩,.m 3 1,⟨none,none,.mapUpd (.int .i64) (.t 2) (.c (.i 10)) (.t 3)⟩,.m 4 1,⟨none,none,.mapUpd (.int .i64) (.t 2) (.c (.i 11)) (.t 4)⟩,.m 5 1,⟨none,none,.mapUpd (.int .i64) (.t 2) (.c (.i 12)) (.t 5)⟩,⟨none,none,.mapUpd (.int .i64) (.t 2) (.c (.i 13)) (.c (.fn (.func 331) [] []))⟩,.m 6 2,.m 0 6]) .ret)))
theorem r_lengths_alike:resFn Tryz.prog 244=some ⟨7,c_lengths_alike.r,[.tmp 0]⟩:=by kernel_rfl
theorem k_lengths_alike:c_lengths_alike.ok=true:=by kernel_rfl
def c_lengths_alike_1:LC:=(.seq (.ops [.z 1 (.box (.t 0)),.z 2 (.move (.c .nilSl))]) (.seq (.ops [.f 3 1 1,.l 4 3,.f 5 3 1,.l 6 5,.f 7 4 1,.l 8 7,.f 9 5 1,.l 10 9,.z 11 (.buildSl 1 4 [(.i 0),(.i 0),(.i 0),(.i 0)] [(0,1,.t 4),(1,1,.t 6),(2,1,.t 8),(3,1,.t 10)]),.m 2 11]) .ret))
theorem r_lengths_alike_1:resFn Tryz.prog 326=some ⟨12,c_lengths_alike_1.r,[.tmp 2]⟩:=by kernel_rfl
theorem k_lengths_alike_1:c_lengths_alike_1.ok=true:=by kernel_rfl
def c_lengths_alike_2:LC:=(.seq (.ops [.z 1 (.box (.t 0)),.z 2 (.move (.c .nilSl))]) (.seq (.ops [.f 3 3 1,.l 4 3,.f 5 4 1,.l 6 5,.z 7 (.buildSl 1 2 [(.i 0),(.i 0)] [(0,1,.t 4),(1,1,.t 6)]),.m 2 7]) .ret))
theorem r_lengths_alike_2:resFn Tryz.prog 327=some ⟨8,c_lengths_alike_2.r,[.tmp 2]⟩:=by kernel_rfl
theorem k_lengths_alike_2:c_lengths_alike_2.ok=true:=by kernel_rfl
def c_lengths_alike_3:LC:=(.seq (.ops [.z 1 (.box (.t 0)),.z 2 (.move (.c .nilSl))]) (.seq (.ops [.f 3 1 1,.l 4 3,.f 5 2 1,.l 6 5,.z 7 (.buildSl 1 2 [(.i 0),(.i 0)] [(0,1,.t 4),(1,1,.t 6)]),.m 2 7]) .ret))
theorem r_lengths_alike_3:resFn Tryz.prog 328=some ⟨8,c_lengths_alike_3.r,[.tmp 2]⟩:=by kernel_rfl
theorem k_lengths_alike_3:c_lengths_alike_3.ok=true:=by kernel_rfl
def c_lengths_alike_4:LC:=(.seq (.ops [.z 1 (.box (.t 0)),.z 2 (.move (.c .nilSl))]) (.seq (.ops [.f 3 1 1,.l 4 3,.f 5 3 1,.l 6 5,.f 7 4 1,.l 8 7,.z 9 (.buildSl 1 3 [(.i 0),(.i 0),(.i 0)] [(0,1,.t 4),(1,1,.t 6),(2,1,.t 8)]),.m 2 9]) .ret))
theorem r_lengths_alike_4:resFn Tryz.prog 329=some ⟨10,c_lengths_alike_4.r,[.tmp 2]⟩:=by kernel_rfl
theorem k_lengths_alike_4:c_lengths_alike_4.ok=true:=by kernel_rfl
def c_lengths_alike_5:LC:=(.seq (.ops [.z 1 (.box (.t 0)),.z 2 (.move (.c .nilSl))]) (.seq (.ops [.f 3 1 1,.l 4 3,.f 5 5 1,.l 6 5,.z 7 (.buildSl 1 2 [(.i 0),(.i 0)] [(0,1,.t 4),(1,1,.t 6)]),.m 2 7]) .ret))
theorem r_lengths_alike_5:resFn Tryz.prog 330=some ⟨8,c_lengths_alike_5.r,[.tmp 2]⟩:=by kernel_rfl
theorem k_lengths_alike_5:c_lengths_alike_5.ok=true:=by kernel_rfl
def c_lengths_alike_6:LC:=(.seq (.ops [.z 1 (.box (.t 0)),.z 2 (.move (.c .nilSl))]) (.seq (.ops [.f 3 1 1,.l 4 3,.f 5 3 1,.l 6 5,.f 7 5 1,.l 8 7,.z 9 (.buildSl 1 3 [(.i 0),(.i 0),(.i 0)] [(0,1,.t 4),(1,1,.t 6),(2,1,.t 8)]),.m 2 9]) .ret))
theorem r_lengths_alike_6:resFn Tryz.prog 331=some ⟨10,c_lengths_alike_6.r,[.tmp 2]⟩:=by kernel_rfl
theorem k_lengths_alike_6:c_lengths_alike_6.ok=true:=by kernel_rfl
def c_lengths_agree_1:LC:=(.seq (.ops [.z 4 (.move (.c (.bool false)))]) (.seq (.draw [(.l 5 1,[]),(.m 6 0,[]),(.z 7 (.ixAddr 3 (.t 5) (.t 6)),[]),(.f 8 0 7,[]),(.l 9 8,[]),(.l 10 1,[]),(.l 11 2,[]),(.z 12 (.ixAddr 1 (.t 11) (.c (.i 0))),[]),(.l 13 12,[]),(.z 14 (.ixAddr 3 (.t 10) (.t 13)),[]),(.f 15 0 14,[]),(.l 16 15,[]),(.z 17 (.bin .neq false 3 (.t 9) (.t 16)),[]),(.m 4 17,[])]) .ret))
theorem r_lengths_agree_1:resFn Tryz.prog 245=some ⟨18,c_lengths_agree_1.r,[.tmp 4]⟩:=by kernel_rfl
theorem k_lengths_agree_1:c_lengths_agree_1.ok=true:=by kernel_rfl
def c_lengths_agree:LC:=(.seq (.ops [.z 2 (.box (.t 0)),.z 3 (.box (.t 1)),.z 4 (.move (.c (.bool false)))]) (.seq (.draw [(.f 10 0 3,[]),(.l 11 10,[]),(.z 9 (.callV (.c (.fn (.func 244) [] [])) []),[(.l 11 10,false)]),(.z 12 (.lookup (.int .i64) .nilFn true (.t 9) (.t 11)),[]),(.m 8 12,[]),(.z 13 (.extract 0 (.t 8)),[]),(.z 14 (.extract 1 (.t 8)),[]),(.m 5 13,[]),(.m 6 14,[])]) (.seq (.seq (.ops [.m 15 6,.z 16 (.un .not (.t 15))]) (.cond (.t 16) (.seq (.ops [.z 4 (.move (.c (.bool true)))]) .ret) .skip)) (.seq (.ops [.m 17 5,.z 18 (.loadN 7 (.t 3)),.z 19 (.callV (.t 17) [.t 18]),.z 7 (.alloc [.nilSl]),⟨none,none,.store 1 (.t 7) (.t 19)⟩]) (.seq (.ops [.l 20 7,.z 21 (.mkFunc 245 [] [.t 2,.t 7]),.z 22 (.callV (.c (.fn (.func 79) [] [])) [.t 20,.t 21]),.z 23 (.un .not (.t 22)),.m 4 23]) .ret)))))
theorem r_lengths_agree:resFn Tryz.prog 169=some ⟨24,c_lengths_agree.r,[.tmp 4]⟩:=by kernel_rfl
theorem k_lengths_agree:c_lengths_agree.ok=true:=by kernel_rfl
def alikeM:List (LV×LV×Nat):=[(.i 6,.fn (.func 327) [] [],0),(.i 14,.fn (.func 328) [] [],1),(.i 8,.fn (.func 329) [] [],2),(.i 9,.fn (.func 330) [] [],3),(.i 10,.fn (.func 326) [] [],4),(.i 11,.fn (.func 326) [] [],5),(.i 12,.fn (.func 326) [] [],6),(.i 13,.fn (.func 331) [] [],7)]
theorem lengths_alike_any {G:LHeap} {K:LV→LHeap→Prop} (k:K (.map G.length) (G++[.map alikeM 8 8])):CallL Tryz.prog (.fn 244) [] G K:=by
 refine call_body r_lengths_alike k_lengths_alike (by simp) ?_
 simp[c_lengths_alike]
 exact k
theorem alike_1_ok (o:Ko):FnV Tryz.prog 326 [.agg o.f] (.lst ([o.d,o.a,o.b,o.c].map .i) 4 1):=by
 refine FnV.mk (by simp[LV.dat,dats]) (call_body r_lengths_alike_1 k_lengths_alike_1 (by simp) ?_)
 simp[c_lengths_alike_1,Ko.f,borR,bor]
theorem alike_2_ok (o:Ko):FnV Tryz.prog 327 [.agg o.f] (.lst ([o.a,o.b].map .i) 2 1):=by
 refine FnV.mk (by simp[LV.dat,dats]) (call_body r_lengths_alike_2 k_lengths_alike_2 (by simp) ?_)
 simp[c_lengths_alike_2,Ko.f,borR,bor]
theorem alike_3_ok (o:Ko):FnV Tryz.prog 328 [.agg o.f] (.lst ([o.d,o.e].map .i) 2 1):=by
 refine FnV.mk (by simp[LV.dat,dats]) (call_body r_lengths_alike_3 k_lengths_alike_3 (by simp) ?_)
 simp[c_lengths_alike_3,Ko.f,borR,bor]
theorem alike_4_ok (o:Ko):FnV Tryz.prog 329 [.agg o.f] (.lst ([o.d,o.a,o.b].map .i) 3 1):=by
 refine FnV.mk (by simp[LV.dat,dats]) (call_body r_lengths_alike_4 k_lengths_alike_4 (by simp) ?_)
 simp[c_lengths_alike_4,Ko.f,borR,bor]
theorem alike_5_ok (o:Ko):FnV Tryz.prog 330 [.agg o.f] (.lst ([o.d,o.c].map .i) 2 1):=by
 refine FnV.mk (by simp[LV.dat,dats]) (call_body r_lengths_alike_5 k_lengths_alike_5 (by simp) ?_)
 simp[c_lengths_alike_5,Ko.f,borR,bor]
theorem alike_6_ok (o:Ko):FnV Tryz.prog 331 [.agg o.f] (.lst ([o.d,o.a,o.c].map .i) 3 1):=by
 refine FnV.mk (by simp[LV.dat,dats]) (call_body r_lengths_alike_6 k_lengths_alike_6 (by simp) ?_)
 simp[c_lengths_alike_6,Ko.f,borR,bor]
def inV (vs:List Vr) (v:Int):Prop:=0≤v∧v < vs.length
theorem inV.at {vs:List Vr} {v:Int} (h:inV vs v):∃ k:Nat,v=k∧k < vs.length∧vs[k]?=some (gv vs v.toNat):=by
 obtain⟨k,rfl⟩:=Int.eq_ofNat_of_zero_le h.1
 have h2:=h.2
 exact⟨k,rfl,by omega,by rw[Int.toNat_natCast]; exact at_gv (by omega)⟩
theorem agree_1_any {G:LHeap} {p q st st':Nat} {vs:List Vr} {L:List Int} (v:Int) {K:LV→LHeap→Prop} (hp:G[p]?=some (.cells [.lst (vsC vs) vs.length 3] st)) (hq:G[q]?=some (.cells [.lst (L.map .i) L.length 1] st'))
  (hv:inV vs v) (hL:inV vs (L.headD 0)) (h0:L≠[]) (k:K (.bool (decide (limbsAt vs v≠limbsAt vs (L.headD 0)))) G):CallL Tryz.prog (.fn 245) [.i v,.ptr p 0,.ptr q 0] G K:=by
 refine call_body r_lengths_agree_1 k_lengths_agree_1 (by simp) ?_
 cases L with
 | nil=>exact absurd rfl h0
 | cons y L =>
  simp only[List.headD_cons] at hL k
  obtain⟨a,rfl,ha,ea⟩:=hv.at
  obtain⟨b,rfl,hb,eb⟩:=hL.at
  have q1:=vs_at0 ea
  have q2:=vs_at0 eb
  simp only[Int.toNat_natCast] at q1 q2
  simp only[limbsAt,Int.toNat_natCast] at k
  simp[c_lengths_agree_1,hp,hq,ha,hb]
  simp[nthL_at q1,nthL_at q2,hp,hq,ha,hb]
  rw[←decide_not]
  exact k
theorem any_not_all (L:List Int) (x:Int→Int) (y:Int):(!(L.any fun v=>decide (x v≠y)))=L.all fun v=>decide (x v=y):=by
 induction L with
 | nil=>rfl
 | cons a L ih =>
  simp only[List.any_cons,List.all_cons,Bool.not_or,ih]
  by_cases h:x a=y <;> simp[h]
theorem lengths_agree_ok (vs:List Vr) (o:Ko) (hv:∀ v∈alikeL o,inV vs v):FnS Tryz.prog 169 [.lst (vsC vs) vs.length 3,.agg o.f] (.bool (agreeB vs o)) []:=by
 refine FnS.val rfl (call_body r_lengths_agree k_lengths_agree (by simp) ?_)
 have hC:o.f=[.i o.kind,.i o.d,.i o.e,.i o.a,.i o.b,.i o.c,.u o.imm]:=rfl
 have fin:∀ L:List Int,L≠[]→alikeL o=L→∀ {G:LHeap} {p q st st':Nat} {K:LV→LHeap→Prop},G[p]?=some (.cells [.lst (vsC vs) vs.length 3] st)→G[q]?=some (.cells [.lst (L.map .i) L.length 1] st')→K (.bool (!agreeB vs o)) G →
   CallL Tryz.prog (.fn 79) [.lst (L.map .i) L.length 1,.fn (.func 245) [] [.ptr p 0,.ptr q 0]] G K:=by
  intro L h0 he G p q st st' K hp hq k
  rw[he] at hv
  have h1:inV vs (L.headD 0):=by
   cases L with
   | nil=>exact absurd rfl h0
   | cons y L=>exact hv y (List.mem_cons_self ..)
  have hl:L.length≤9223372036854775807:=by
   rw[←he]; unfold alikeL; repeat' split
   all_goals simp
  refine ContainsFunc_any (p:=fun v=>decide (limbsAt vs v≠limbsAt vs (L.headD 0))) hl (fun v hm K' k'=>agree_1_any v hp hq (hv v hm) h1 h0 k') ?_
  have:=any_not_all L (limbsAt vs) (limbsAt vs (L.headD 0))
  rw[←Bool.not_not (L.any _),this]
  rw[agreeB,he] at k
  exact k
 by_cases h6:o.kind=6
 ·have he:alikeL o=[o.a,o.b]:=by simp[alikeL,h6]
  simp[c_lengths_agree,hC,h6]
  refine lengths_alike_any ?_
  simp[alikeM]
  have hf:=alike_2_ok o
  rw[hC,h6] at hf
  refine CallL_V hf rfl ?_
  simp
  refine fin [o.a,o.b] (by simp) he rfl rfl ?_
  simp
 by_cases h14:o.kind=14
 ·have he:alikeL o=[o.d,o.e]:=by simp[alikeL,h14]
  simp[c_lengths_agree,hC,h14]
  refine lengths_alike_any ?_
  simp[alikeM]
  have hf:=alike_3_ok o
  rw[hC,h14] at hf
  refine CallL_V hf rfl ?_
  simp
  refine fin [o.d,o.e] (by simp) he rfl rfl ?_
  simp
 by_cases h8:o.kind=8
 ·have he:alikeL o=[o.d,o.a,o.b]:=by simp[alikeL,h8]
  simp[c_lengths_agree,hC,h8]
  refine lengths_alike_any ?_
  simp[alikeM]
  have hf:=alike_4_ok o
  rw[hC,h8] at hf
  refine CallL_V hf rfl ?_
  simp
  refine fin [o.d,o.a,o.b] (by simp) he rfl rfl ?_
  simp
 by_cases h9:o.kind=9
 ·have he:alikeL o=[o.d,o.c]:=by simp[alikeL,h9]
  simp[c_lengths_agree,hC,h9]
  refine lengths_alike_any ?_
  simp[alikeM]
  have hf:=alike_5_ok o
  rw[hC,h9] at hf
  refine CallL_V hf rfl ?_
  simp
  refine fin [o.d,o.c] (by simp) he rfl rfl ?_
  simp
 by_cases h10:o.kind=10
 ·have he:alikeL o=[o.d,o.a,o.b,o.c]:=by simp[alikeL,h10]
  simp[c_lengths_agree,hC,h10]
  refine lengths_alike_any ?_
  simp[alikeM]
  have hf:=alike_1_ok o
  rw[hC,h10] at hf
  refine CallL_V hf rfl ?_
  simp
  refine fin [o.d,o.a,o.b,o.c] (by simp) he rfl rfl ?_
  simp
 by_cases h11:o.kind=11
 ·have he:alikeL o=[o.d,o.a,o.b,o.c]:=by simp[alikeL,h11]
  simp[c_lengths_agree,hC,h11]
  refine lengths_alike_any ?_
  simp[alikeM]
  have hf:=alike_1_ok o
  rw[hC,h11] at hf
  refine CallL_V hf rfl ?_
  simp
  refine fin [o.d,o.a,o.b,o.c] (by simp) he rfl rfl ?_
  simp
 by_cases h12:o.kind=12
 ·have he:alikeL o=[o.d,o.a,o.b,o.c]:=by simp[alikeL,h12]
  simp[c_lengths_agree,hC,h12]
  refine lengths_alike_any ?_
  simp[alikeM]
  have hf:=alike_1_ok o
  rw[hC,h12] at hf
  refine CallL_V hf rfl ?_
  simp
  refine fin [o.d,o.a,o.b,o.c] (by simp) he rfl rfl ?_
  simp
 by_cases h13:o.kind=13
 ·have he:alikeL o=[o.d,o.a,o.c]:=by simp[alikeL,h13]
  simp[c_lengths_agree,hC,h13]
  refine lengths_alike_any ?_
  simp[alikeM]
  have hf:=alike_6_ok o
  rw[hC,h13] at hf
  refine CallL_V hf rfl ?_
  simp
  refine fin [o.d,o.a,o.c] (by simp) he rfl rfl ?_
  simp
 have he:alikeL o=[]:=by simp[alikeL,h6,h14,h8,h9,h10,h11,h12,h13]
 simp[c_lengths_agree,hC,h6,h14,h8,h9,h10,h11,h12,h13]
 refine lengths_alike_any ?_
 simp[alikeM,h6,h14,h8,h9,h10,h11,h12,h13]
 simp[agreeB,he]
end Go.Proofs.YtocgdaojgjnfcaaGreat
